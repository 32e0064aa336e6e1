/- Part 5 of the proof that DeltaCodes: called with any changes and any bytes that hold together at most 1048576 values and letters, the law answers true, and both read afterwards as they read before. -/
import Derived.Test.YtpkcbdhjnnnkbaaGreatMDeltaCodes4
import Derived.Test.YtpkcbdhjnnnkbaaGreatMDeltaCodes3
import Derived.Test.YtpkcbdhjnnnkbaaGreatMDeltaCodes2
import Derived.Test.YtpkcbdhjnnnkbaaGreatRows
import Derived.WalkKit
import Derived.ProofKit
import Derived.OpenShut
import Derived.JoinedCond
import Derived.ChangeArms
import Derived.Carry
set_option linter.unusedSimpArgs false
set_option linter.unusedVariables false
set_option maxHeartbeats 1000000
set_option maxRecDepth 100000
namespace Go.Proofs.YtpkcbdhjnnnkbaaGreat.Abs
open Go
theorem rdAll_rng (s:SB):rngV (rdAll s).1:=by
 unfold rdAll;split
 ·exact ⟨by omega,trivial⟩
 ·exact rdV_rng 8 s
theorem rdAll_sz (s:SB) (hx:s.1.length≤1048576):szV (rdAll s).1≤1099511627776:=by
 have h1:=rdV_sz 8 s (by omega);have h2:pot s≤s.1.length+2:=by (unfold pot;split <;> omega)
 unfold rdAll;split
 ·simp [szV,szVs,szN]
 ·split at h1 <;> omega
def rdTs:Nat→SB→List Str→List Str×SB
 | 0,s,ns=>(ns,s)
 | n+1,s,ns=>rdTs n (txtS s 32).2 (ns++[(txtS s 32).1])
theorem rdTs_le:∀ (n:Nat) (s:SB) (ns:List Str),(rdTs n s ns).2.1.length≤s.1.length
 | 0,s,ns=>Nat.le_refl _
 | n+1,s,ns=>Nat.le_trans (rdTs_le n _ _) (txt_le s 32)
def rdD3 (rv:SB→Val×SB) (k:Int) (ns:List Str) (s:SB):Dlt×SB:=
 if k=1 then (⟨k,ns,(rv s).1,0⟩,(rv s).2) else if k=3 then (⟨k,ns,.mk 0 0 [] [] [],(cntS s 999).1⟩,(cntS s 999).2) else (⟨k,ns,.mk 0 0 [] [] [],0⟩,s)
def spoilD (p:Dlt×SB):Dlt×SB:=(p.1,if mayD p.1=true then p.2 else (p.2.1,true))
def rdDl (s:SB):Dlt×SB:=spoilD (rdD3 rdAll (rdByte s).1 (rdTs (cntS (rdByte s).2 8).1.toNat (cntS (rdByte s).2 8).2 []).1 (rdTs (cntS (rdByte s).2 8).1.toNat (cntS (rdByte s).2 8).2 []).2)
theorem spoil_yes {p:Dlt×SB} (h:mayD p.1=true):spoilD p=p:=by unfold spoilD;rw [if_pos h]
theorem spoil_no {p:Dlt×SB} (h:¬ mayD p.1=true):spoilD p=(p.1,(p.2.1,true)):=by unfold spoilD;rw [if_neg h]
theorem map_snoc (ns:List Str) (t:Str):(ns++[t]).map D.str=ns.map D.str++[D.str t]:=by simp
theorem fn93:FnOkC Tryz.prog 93 37 [.cell 2 83] (bodyOf Tryz.f93):=⟨Tryz.f93,Tryz.func93,by kernel_rfl,by decide,by kernel_rfl,by kernel_rfl⟩
theorem s93 (s:SB) (hx:s.1.length≤1048576):MSpec Tryz.prog 93 (fun k=>[.loc k 0]) (srcS s) (srcS (rdDl s).2) (.d (encD (rdDl s).1)):=by
 have hb1:=byte_le s;have hcr:=cnt_rng (rdByte s).2 8 (by decide);have hcl:=cnt_le (rdByte s).2 8;refine MSpec.ofC tabOk fn93 (fun _=>by simp) (fun _=>by first | exact srcS_lts _ _ | simp [SV.lts,SV.lt]) fun o nk k hkn hM=>?_;refine wr ?_;refine u_step (g_alloc th83 rfl fun o2 hb2 hk2=>?_);have hM_2:=(hk2 _ (by omega)).trans hM;refine u_nil (wr (uM ?_));refine u_step (g_mcall (s106 s) hM_2 rfl fun o4 hb4 hk4=>?_);have hb2_4:=(hk4 _ (by omega)).trans hb2;refine u_step (o_bu rfl th83 rfl rfl ?_);refine u_step (g_alloc th83 rfl fun o5 hb5 hk5=>?_);have hb2_5:=(hk5 _ (by omega)).trans hb2_4;have hb4_5:=(hk5 _ (by omega)).trans hb4;refine u_step0 (g_sta rfl rfl th83 rfl hb5 (by first | (simp;done) | (simp [D.leaves,D.width,valCells];done) | decide) fun o6 hb6 hk6=>?_);have hb2_6:=(hk6 _ (by omega)).trans hb2_5;have hb4_6:=(hk6 _ (by omega)).trans hb4_5;refine u_nil (WP.seq fun K7 hK7=>?_);refine wr (uM ?_);refine u_step (g_mcall (s92 _ 8) hb4_6 rfl fun o9 hb9 hk9=>?_);have hb2_9:=(hk9 _ (by omega)).trans hb2_6;have hb6_9:=(hk9 _ (by omega)).trans hb6;refine um (u_nil (WP.block ?_));refine WP.loopL (ι:=Nat×SB×List Str×SV×Option Nat×(Nat→Option AO)×Nat) (fun ⟨i,s1,ns,c,q,o2,nk2⟩=>⟨al [(0,.loc k 0),(2,.loc nk 0),(3,.loc (nk+1) 0),(8,.d (.int .i64 (cntS (rdByte s).2 8).1)),(9,.d (.int .i64 i))],o2,nk2⟩) (fun ⟨i,s1,ns,c,q,o2,nk2⟩=>i≤(cntS (rdByte s).2 8).1.toNat∧nk+2≤nk2∧s1.1.length≤1048576∧ns.length≤i∧rdTs ((cntS (rdByte s).2 8).1.toNat - i) s1 ns=rdTs (cntS (rdByte s).2 8).1.toNat (cntS (rdByte s).2 8).2 []∧o2 k=some (.box (srcS s1))∧o2 (nk+1)=some (.box [.d (.int .i64 (rdByte s).1),c,.d (.int .i64 0),.d (.int .i64 0),.d (.str []),.d .nil,.d .nil,.d (.int .i64 0)])∧o2 nk=some (.box [.d (.int .i64 0),.d .nil,.d (.int .i64 0),.d (.int .i64 0),.d (.str []),.d .nil,.d .nil,.d (.int .i64 0)])∧dstOf o2 9 1 c=some (q,ns.map .str)∧(∀ t,q=some t→nk+2≤t∧t < nk2)∧∀ t,t < nk∧t≠k→o2 t=o t) (fun ⟨i,s1,ns,c,q,o2,nk2⟩=>(cntS (rdByte s).2 8).1.toNat - i) (fun ⟨i,s1,ns,c,q,o2,nk2⟩ hA=>?_) ⟨0,(cntS (rdByte s).2 8).2,[],.d .nil,none,o9,((nk+1)+1)⟩ ?_ ?_
 ·
  obtain ⟨hle,hnk,hsl,hnl,heq,hsk,hob,hzb,hd,hq,hfr⟩:=hA;refine wr ?_;refine ub ?_;refine u_nil ?_;refine WP.seq fun K11 hK11=>?_;refine wc (fun hc12=>?_) (fun hc12=>?_) <;> try simp only [Q0,Q1,Q2,Q3,Q4,Q5,Q6,Q7,Q8,ge_iff_le,gt_iff_lt] at hc12
  ·
   have hlt:i < (cntS (rdByte s).2 8).1.toNat:=by have hgo:=hc12;(try simp at hgo);omega
   refine WP.skip (hK11 _ (WP.seq fun K13 hK13=>?_));refine WP.block ?_;refine WP.dr3 [.q 0 1,.q 0 1,.q 0 0,.w 0,.q 1 1,.w 1,.q 2 2,.w 2] [3,5,7] nk2 (nk2+1) (nk2+1) tabOk (by kernel_rfl) rfl (by kernel_rfl) (by kernel_rfl) ?_;apply Exists.intro;apply Exists.intro;apply Exists.intro;refine e_step2 rfl rfl (o_fa_loc rfl th83 rfl rfl th22 (by decide) hob ⟨rfl,rfl,rfl⟩) ?_ ?_;rotate_left;refine e_step2 rfl rfl (o_ld_locV rfl th22 rfl hob rfl ⟨rfl,rfl,rfl⟩) ?_ ?_;rotate_left;refine e_step rfl (o_moveV (v:=.loc _ _) rfl ⟨rfl,rfl,rfl⟩) ?_;refine e_w rfl rfl (w_mcall (s107 s1 32 (by omega)) hsk rfl ⟨rfl,rfl,rfl⟩) ?_;refine e_step rfl (o_bs rfl th22 rfl th9 rfl rfl (by decide) rfl (by decide) (by decide) ⟨rfl,rfl,rfl⟩) ?_;refine e_w rfl rfl (w_apD rfl th22 rfl th9 rfl rfl (by decide) rfl (dst_keep hd fun t e=>(by have:=hq t e;exact upd_ne _ _ (by omega))) (by simp only [List.length_map,List.length_cons,List.length_nil];omega) (by simp only [List.length_map,List.length_cons,List.length_nil];omega) ⟨rfl,rfl,rfl⟩) ?_;refine e_step rfl (o_fa_loc rfl th83 rfl rfl th22 (by decide) (((upd_ne _ _ (by omega)).trans (killo_ne (fun e=>by have:=hq _ e;omega))).trans ((upd_ne _ _ (by omega)).trans hob)) ⟨rfl,rfl,rfl⟩) ?_;refine e_w0 rfl rfl (w_stV rfl rfl (upd_same _ _ _) th22 rfl (((upd_ne _ _ (by omega)).trans (killo_ne (fun e=>by have:=hq _ e;omega))).trans ((upd_ne _ _ (by omega)).trans hob)) (by simp) ⟨rfl,rfl,rfl⟩) ?_;refine e_nil rfl fun o17 ho17=>?_;have hbZ_17:=(ho17 _).trans ((upd_ne _ _ (by omega)).trans (((upd_ne _ _ (by omega)).trans (killo_ne (fun e=>by have:=hq _ e;omega))).trans ((upd_ne _ _ (by omega)).trans hzb)));have hbM_17:=(ho17 _).trans ((upd_ne _ _ (by omega)).trans (((upd_ne _ _ (by omega)).trans (killo_ne (fun e=>by have:=hq _ e;omega))).trans (upd_same _ _ _)));have hbr15_17:=(ho17 _).trans ((upd_ne _ _ (by omega)).trans (upd_same _ _ _));have hbB_17:=(ho17 _).trans (upd_same _ _ _);have hk17:∀ t,t < nk∧t≠k→o17 t=o2 t:=fun t ht=>(ho17 t).trans ((upd_ne _ _ (by omega)).trans (((upd_ne _ _ (by omega)).trans (killo_ne (fun e=>by have:=hq _ e;omega))).trans (upd_ne _ _ (by omega))))
   ·
    refine hK13 _ (WP.reg tabOk rfl ?_);refine ub (um (u_nil ?_));refine ⟨⟨i+1,(txtS s1 32).2,ns++[(txtS s1 32).1],.row _,some _,o17,(nk2+1)⟩,⟨by omega,by omega,by have:=txt_le s1 32;omega,by simp;omega,?_,hbM_17,hbB_17,hbZ_17,(map_snoc ns _).symm ▸ dst_row hbr15_17,fun t e=>by injection e with e;omega,(fun t ht=>(hk17 t (by omega)).trans ((hfr t (by omega))))⟩,by simp only;omega,Le.al ?_⟩
    ·rw [← heq,show (cntS (rdByte s).2 8).1.toNat - i=((cntS (rdByte s).2 8).1.toNat - (i+1))+1 by omega];rfl
    ·simp only [List.forall_mem_cons];exact ⟨rfl,rfl,rfl,rfl,cnt (by omega),by simp⟩
   exact o_fa_loc rfl th83 rfl rfl th22 (by decide) ((upd_ne _ _ (by omega)).trans hob) ⟨rfl,rfl,rfl⟩;exact o_ld_locV rfl th22 rfl ((upd_ne _ _ (by omega)).trans hob) rfl ⟨rfl,rfl,rfl⟩
  ·
   have hge:(cntS (rdByte s).2 8).1.toNat - i=0:=by have hgo:=hc12;(try simp at hgo);omega
   have hfin:rdTs (cntS (rdByte s).2 8).1.toNat (cntS (rdByte s).2 8).2 []=(ns,s1):=by rw [← heq,hge];rfl
   have hrd:rdDl s=spoilD (rdD3 rdAll (rdByte s).1 ns s1):=by unfold rdDl;rw [hfin]
   refine WP.exit ?_;refine hK7 _ ?_;refine WP.seq fun K18 hK18=>?_;refine WP.frzC (pre:=[.d (.int .i64 (rdByte s).1)]) (post:=[.d (.int .i64 0),.d (.int .i64 0),.d (.str []),.d .nil,.d .nil,.d (.int .i64 0)]) [(0,.loc k 0),(2,.loc nk 0),(3,.loc (nk+1) 0)] nk hob hd (by omega) (fun t e=>⟨rfl,rfl⟩) (fun t e=>by simp only [List.forall_mem_cons];exact ⟨rfl,rfl,rfl,by simp⟩) (fun e=>by simp only [List.forall_mem_cons];exact ⟨rfl,rfl,rfl,by simp⟩) fun o9 hB9 hk9 hm9=>?_;have hF9:∀ t,t < nk→o9 t=o2 t:=fun t ht=>hk9 t ht (fun h=>by have:=hq t h;omega);have hM9:=(hF9 _ hkn).trans hsk;have hZ9:=hm9 _ _ (by omega) hzb fun t d=>rfl;refine WP.leB [.d (.int .i64 (rdByte s).1),.d (.sl 1 (ns.map .str)),.d (.int .i64 0),.d (.int .i64 0),.d (.str []),.d (.sl 5 []),.d (.sl 1 []),.d (.int .i64 0)] hB9 ⟨D.le_refl _,D.le_refl _,D.le_refl _,D.le_refl _,D.le_refl _,rfl,rfl,D.le_refl _,trivial⟩ fun o8 hB8 hk8=>?_;have hF8:∀ t,t < nk→o8 t=o9 t:=fun t ht=>hk8 t (by omega);have hM8:=(hF8 _ hkn).trans hM9;have hZ8:=(hk8 _ (by omega)).trans hZ9;refine wr ?_;refine uf th83 th3 hB8 ?_;refine ul th3 hB8 ?_;refine u_nil ?_;refine WP.block ?_;refine wr ?_;refine ub ?_;refine ua ?_;refine u_nil ?_;refine wc (fun hc21=>?_) (fun hc21=>?_) <;> try simp only [Q0,Q1,Q2,Q3,Q4,Q5,Q6,Q7,Q8,ge_iff_le,gt_iff_lt] at hc21
   ·
    have g1:(rdByte s).1=1:=by simpa using hc21
    have hd3:rdD3 rdAll (rdByte s).1 ns s1=((⟨(rdByte s).1,ns,(rdAll s1).1,0⟩:Dlt),(rdAll s1).2):=if_pos g1;have hok:okD (⟨(rdByte s).1,ns,(rdAll s1).1,0⟩:Dlt):=⟨rdAll_rng s1,rdAll_sz s1 (by omega)⟩;refine WP.reg tabOk rfl ?_;refine uM ?_;refine u_step (g_mcall (s108 s1 (by omega)) hM8 rfl fun o22 hb22 hk22=>?_);have hB8_22:=(hk22 _ (by omega)).trans hB8;have hZ8_22:=(hk22 _ (by omega)).trans hZ8;refine uf th83 th27 hB8_22 ?_;refine u_step0 (g_sta rfl (congrArg SV.d (encV_eq _)) th27 rfl hB8_22 (by simp [valCells]) fun o23 hb23 hk23=>?_);have hZ8_23:=(hk23 _ (by omega)).trans hZ8_22;have hb22_23:=(hk23 _ (by omega)).trans hb22;refine u_nil ?_;refine hK18 _ ?_;refine WP.seq fun K24 hK24=>?_;refine wr ?_;refine ug th83 hb23 ?_;refine u_step (o_pcall (s73 _ hok) rfl ?_);refine uN ?_;refine u_nil ?_;refine wc (fun hc26=>?_) (fun hc26=>?_) <;> try simp only [Q0,Q1,Q2,Q3,Q4,Q5,Q6,Q7,Q8,ge_iff_le,gt_iff_lt] at hc26
    ·
     have hm:¬ mayD (rdD3 rdAll (rdByte s).1 ns s1).1=true:=by rw [hd3];simpa using hc26
     have hr:=hrd.trans (spoil_no hm);rw [hd3] at hr;refine WP.reg tabOk rfl ?_;refine uM ?_;refine u_step (g_mcall (s109 _) hb22_23 rfl fun o27 hb27 hk27=>?_);have hZ8_27:=(hk27 _ (by omega)).trans hZ8_23;have hb23_27:=(hk27 _ (by omega)).trans hb23;refine u_nil (hK24 _ (wr (ug th83 hb23_27 ?_)));refine u_step0 (g_sta rfl rfl th83 rfl hZ8_27 (by first | (simp;done) | (simp [D.leaves,D.width,valCells];done) | decide) fun o29 hb29 hk29=>?_);have hb23_29:=(hk29 _ (by omega)).trans hb23_27;have hb27_29:=(hk29 _ (by omega)).trans hb27;refine u_nil (WP.ret ?_);refine retCM_ok (resis_agg rfl th83 rfl hb29 rfl rfl rfl) ?_ (by omega) (by rw [hr];exact hb27_29) (fun t ht=>(hk29 t (by omega)).trans ((hk27 t (by omega)).trans ((hk23 t (by omega)).trans ((hk22 t (by omega)).trans ((hF8 t (by omega)).trans ((hF9 t (by omega)).trans ((hfr t (by omega)))))))));rw [hr];exact D.le_refl _
    ·
     have hm:mayD (rdD3 rdAll (rdByte s).1 ns s1).1=true:=by rw [hd3];simpa using hc26
     have hr:=hrd.trans (spoil_yes hm);rw [hd3] at hr;refine WP.skip (hK24 _ (wr (ug th83 hb23 ?_)));refine u_step0 (g_sta rfl rfl th83 rfl hZ8_23 (by first | (simp;done) | (simp [D.leaves,D.width,valCells];done) | decide) fun o31 hb31 hk31=>?_);have hb22_31:=(hk31 _ (by omega)).trans hb22_23;have hb23_31:=(hk31 _ (by omega)).trans hb23;refine u_nil (WP.ret ?_);refine retCM_ok (resis_agg rfl th83 rfl hb31 rfl rfl rfl) ?_ (by omega) (by rw [hr];exact hb22_31) (fun t ht=>(hk31 t (by omega)).trans ((hk23 t (by omega)).trans ((hk22 t (by omega)).trans ((hF8 t (by omega)).trans ((hF9 t (by omega)).trans ((hfr t (by omega))))))));rw [hr];exact D.le_refl _
   ·
    have g1:¬ (rdByte s).1=1:=by simpa using hc21
    refine wr ?_;refine ub ?_;refine ua ?_;refine u_nil ?_;refine wc (fun hc33=>?_) (fun hc33=>?_) <;> try simp only [Q0,Q1,Q2,Q3,Q4,Q5,Q6,Q7,Q8,ge_iff_le,gt_iff_lt] at hc33
    ·
     have g3:(rdByte s).1=3:=by simpa using hc33
     have hd3:rdD3 rdAll (rdByte s).1 ns s1=((⟨(rdByte s).1,ns,.mk 0 0 [] [] [],(cntS s1 999).1⟩:Dlt),(cntS s1 999).2):=(if_neg g1).trans (if_pos g3);have hok:okD (⟨(rdByte s).1,ns,.mk 0 0 [] [] [],(cntS s1 999).1⟩:Dlt):=⟨⟨by decide,trivial⟩,by simp [szV,szVs,szN]⟩;refine WP.reg tabOk rfl ?_;refine uM ?_;refine u_step (g_mcall (s92 _ 999) hM8 rfl fun o34 hb34 hk34=>?_);have hB8_34:=(hk34 _ (by omega)).trans hB8;have hZ8_34:=(hk34 _ (by omega)).trans hZ8;refine uf th83 th3 hB8_34 ?_;refine u_step0 (g_st rfl rfl rfl th3 rfl hB8_34 (by first | (simp;done) | (simp [D.leaves,D.width];done) | decide) fun o35 hb35 hk35=>?_);have hZ8_35:=(hk35 _ (by omega)).trans hZ8_34;have hb34_35:=(hk35 _ (by omega)).trans hb34;refine u_nil ?_;refine hK18 _ ?_;refine WP.seq fun K36 hK36=>?_;refine wr ?_;refine ug th83 hb35 ?_;refine u_step (o_pcall (s73 _ hok) rfl ?_);refine uN ?_;refine u_nil ?_;refine wc (fun hc38=>?_) (fun hc38=>?_) <;> try simp only [Q0,Q1,Q2,Q3,Q4,Q5,Q6,Q7,Q8,ge_iff_le,gt_iff_lt] at hc38
     ·
      have hm:¬ mayD (rdD3 rdAll (rdByte s).1 ns s1).1=true:=by rw [hd3];simpa using hc38
      have hr:=hrd.trans (spoil_no hm);rw [hd3] at hr;refine WP.reg tabOk rfl ?_;refine uM ?_;refine u_step (g_mcall (s109 _) hb34_35 rfl fun o39 hb39 hk39=>?_);have hZ8_39:=(hk39 _ (by omega)).trans hZ8_35;have hb35_39:=(hk39 _ (by omega)).trans hb35;refine u_nil (hK36 _ (wr (ug th83 hb35_39 ?_)));refine u_step0 (g_sta rfl rfl th83 rfl hZ8_39 (by first | (simp;done) | (simp [D.leaves,D.width,valCells];done) | decide) fun o41 hb41 hk41=>?_);have hb35_41:=(hk41 _ (by omega)).trans hb35_39;have hb39_41:=(hk41 _ (by omega)).trans hb39;refine u_nil (WP.ret ?_);refine retCM_ok (resis_agg rfl th83 rfl hb41 rfl rfl rfl) ?_ (by omega) (by rw [hr];exact hb39_41) (fun t ht=>(hk41 t (by omega)).trans ((hk39 t (by omega)).trans ((hk35 t (by omega)).trans ((hk34 t (by omega)).trans ((hF8 t (by omega)).trans ((hF9 t (by omega)).trans ((hfr t (by omega)))))))));rw [hr];exact D.le_refl _
     ·
      have hm:mayD (rdD3 rdAll (rdByte s).1 ns s1).1=true:=by rw [hd3];simpa using hc38
      have hr:=hrd.trans (spoil_yes hm);rw [hd3] at hr;refine WP.skip (hK36 _ (wr (ug th83 hb35 ?_)));refine u_step0 (g_sta rfl rfl th83 rfl hZ8_35 (by first | (simp;done) | (simp [D.leaves,D.width,valCells];done) | decide) fun o43 hb43 hk43=>?_);have hb34_43:=(hk43 _ (by omega)).trans hb34_35;have hb35_43:=(hk43 _ (by omega)).trans hb35;refine u_nil (WP.ret ?_);refine retCM_ok (resis_agg rfl th83 rfl hb43 rfl rfl rfl) ?_ (by omega) (by rw [hr];exact hb34_43) (fun t ht=>(hk43 t (by omega)).trans ((hk35 t (by omega)).trans ((hk34 t (by omega)).trans ((hF8 t (by omega)).trans ((hF9 t (by omega)).trans ((hfr t (by omega))))))));rw [hr];exact D.le_refl _
    ·
     have g3:¬ (rdByte s).1=3:=by simpa using hc33
     have hd3:rdD3 rdAll (rdByte s).1 ns s1=((⟨(rdByte s).1,ns,.mk 0 0 [] [] [],0⟩:Dlt),s1):=(if_neg g1).trans (if_neg g3);have hok:okD (⟨(rdByte s).1,ns,.mk 0 0 [] [] [],0⟩:Dlt):=⟨⟨by decide,trivial⟩,by simp [szV,szVs,szN]⟩;refine WP.skip ?_;refine hK18 _ ?_;refine WP.seq fun K44 hK44=>?_;refine wr ?_;refine ug th83 hB8 ?_;refine u_step (o_pcall (s73 _ hok) rfl ?_);refine uN ?_;refine u_nil ?_;refine wc (fun hc46=>?_) (fun hc46=>?_) <;> try simp only [Q0,Q1,Q2,Q3,Q4,Q5,Q6,Q7,Q8,ge_iff_le,gt_iff_lt] at hc46
     ·
      have hm:¬ mayD (rdD3 rdAll (rdByte s).1 ns s1).1=true:=by rw [hd3];simpa using hc46
      have hr:=hrd.trans (spoil_no hm);rw [hd3] at hr;refine WP.reg tabOk rfl ?_;refine uM ?_;refine u_step (g_mcall (s109 _) hM8 rfl fun o47 hb47 hk47=>?_);have hB8_47:=(hk47 _ (by omega)).trans hB8;have hZ8_47:=(hk47 _ (by omega)).trans hZ8;refine u_nil (hK44 _ (wr (ug th83 hB8_47 ?_)));refine u_step0 (g_sta rfl rfl th83 rfl hZ8_47 (by first | (simp;done) | (simp [D.leaves,D.width,valCells];done) | decide) fun o49 hb49 hk49=>?_);have hB8_49:=(hk49 _ (by omega)).trans hB8_47;have hb47_49:=(hk49 _ (by omega)).trans hb47;refine u_nil (WP.ret ?_);refine retCM_ok (resis_agg rfl th83 rfl hb49 rfl rfl rfl) ?_ (by omega) (by rw [hr];exact hb47_49) (fun t ht=>(hk49 t (by omega)).trans ((hk47 t (by omega)).trans ((hF8 t (by omega)).trans ((hF9 t (by omega)).trans ((hfr t (by omega)))))));rw [hr];exact D.le_refl _
     ·
      have hm:mayD (rdD3 rdAll (rdByte s).1 ns s1).1=true:=by rw [hd3];simpa using hc46
      have hr:=hrd.trans (spoil_yes hm);rw [hd3] at hr;refine WP.skip (hK44 _ (wr (ug th83 hB8 ?_)));refine u_step0 (g_sta rfl rfl th83 rfl hZ8 (by first | (simp;done) | (simp [D.leaves,D.width,valCells];done) | decide) fun o51 hb51 hk51=>?_);have hM8_51:=(hk51 _ (by omega)).trans hM8;have hB8_51:=(hk51 _ (by omega)).trans hB8;refine u_nil (WP.ret ?_);refine retCM_ok (resis_agg rfl th83 rfl hb51 rfl rfl rfl) ?_ (by omega) (by rw [hr];exact hM8_51) (fun t ht=>(hk51 t (by omega)).trans ((hF8 t (by omega)).trans ((hF9 t (by omega)).trans ((hfr t (by omega))))));rw [hr];exact D.le_refl _
 ·
  refine ⟨by omega,by omega,by omega,by simp,rfl,hb9,hb6_9,hb2_9,rfl,by simp,(fun t ht=>(hk9 t (by omega)).trans ((hk6 t (by omega)).trans ((hk5 t (by omega)).trans ((hk4 t (by omega)).trans ((hk2 t (by omega)))))))⟩
 ·
  refine Le.al ?_;simp only [List.forall_mem_cons];exact ⟨rfl,rfl,rfl,rfl,rfl,by simp⟩
theorem rdD3_le (k:Int) (ns:List Str) (s:SB):(rdD3 rdAll k ns s).2.1.length≤s.1.length:=by
 unfold rdD3;split
 ·exact rdAll_le s
 ·split
  ·exact cnt_le _ _
  ·exact Nat.le_refl _
theorem spoil_len (p:Dlt×SB):(spoilD p).2.1.length=p.2.1.length:=by unfold spoilD;simp only;split <;> rfl
theorem rdDl_le (s:SB):(rdDl s).2.1.length≤s.1.length:=by
 unfold rdDl;rw [spoil_len];exact Nat.le_trans (rdD3_le _ _ _) (Nat.le_trans (rdTs_le _ _ _) (Nat.le_trans (cnt_le _ _) (byte_le s)))
def rdDls:Nat→SB→List Dlt→List Dlt×SB
 | 0,s,ds=>(ds,s)
 | n+1,s,ds=>rdDls n (rdDl s).2 (if (rdDl s).2.2=true then ds else ds++[(rdDl s).1])
def rdDq (r:List Dlt×SB):List Dlt×SB:=(if r.2.2=true then [] else r.1,r.2)
def rdDsP (s:SB):List Dlt×SB:=rdDq (rdDls (cntS s 64).1.toNat (cntS s 64).2 [])
theorem rdDq_no {r:List Dlt×SB} (h:r.2.2=true):rdDq r=([],r.2):=by unfold rdDq;rw [if_pos h]
theorem rdDq_ok {r:List Dlt×SB} (h:¬ r.2.2=true):rdDq r=r:=by unfold rdDq;rw [if_neg h]
theorem mapD_snoc (ds:List Dlt) (d:Dlt):(ds++[d]).map encD=ds.map encD++[encD d]:=by simp
theorem fn38:FnOk Tryz.prog 38 22 [2] (bodyOf Tryz.f38):=⟨Tryz.f38,Tryz.func38,by kernel_rfl,by decide,by kernel_rfl,by kernel_rfl⟩
theorem s38 (s:SB) (hx:s.1.length≤1048576):MSpec Tryz.prog 38 (fun k=>[.loc k 0]) (srcS s) (srcS (rdDsP s).2) (.d (.sl 8 ((rdDsP s).1.map encD))):=by
 have hcr:=cnt_rng s 64 (by decide);have hcl:=cnt_le s 64;refine MSpec.ofW fn38 (fun _=>by simp) (fun _=>by first | exact srcS_lts _ _ | simp [SV.lts,SV.lt]) fun o nk k hkn hM=>?_;refine wr (ua (u_nil (wr (ua (u_nil (WP.seq fun K3 hK3=>?_))))));refine wr (uM ?_);refine u_step (g_mcall (s92 s 64) hM rfl fun o5 hb5 hk5=>?_);refine um (u_nil (WP.block ?_));refine WP.loopL (ι:=Nat×SB×List Dlt×SV×Option Nat×(Nat→Option AO)×Nat) (fun ⟨i,s1,ds,c,q,o2,nk2⟩=>⟨al [(0,.loc k 0),(3,c),(6,.d (.int .i64 (cntS s 64).1)),(7,.d (.int .i64 i))],o2,nk2⟩) (fun ⟨i,s1,ds,c,q,o2,nk2⟩=>i≤(cntS s 64).1.toNat∧nk≤nk2∧s1.1.length≤1048576∧ds.length≤i∧rdDls ((cntS s 64).1.toNat - i) s1 ds=rdDls (cntS s 64).1.toNat (cntS s 64).2 []∧o2 k=some (.box (srcS s1))∧dstOf o2 83 8 c=some (q,ds.map encD)∧(∀ t,q=some t→nk≤t∧t < nk2)∧∀ t,t < nk∧t≠k→o2 t=o t) (fun ⟨i,s1,ds,c,q,o2,nk2⟩=>(cntS s 64).1.toNat - i) (fun ⟨i,s1,ds,c,q,o2,nk2⟩ hA=>?_) ⟨0,(cntS s 64).2,[],.d .nil,none,o5,nk⟩ ?_ ?_
 ·
  obtain ⟨hle,hnk,hsl,hnl,heq,hsk,hd,hq,hfr⟩:=hA;refine wr ?_;refine ub ?_;refine u_nil ?_;refine WP.seq fun K7 hK7=>?_;refine wc (fun hc8=>?_) (fun hc8=>?_) <;> try simp only [Q0,Q1,Q2,Q3,Q4,Q5,Q6,Q7,Q8,ge_iff_le,gt_iff_lt] at hc8
  ·
   have hlt:i < (cntS s 64).1.toNat:=by have hgo:=hc8;(try simp at hgo);omega
   refine WP.skip ?_;refine hK7 _ ?_;refine WP.seq fun K9 hK9=>?_;refine WP.block ?_;refine wr ?_;refine uM ?_;refine u_step (g_mcall (s93 s1 (by omega)) hsk rfl fun o11 hb11 hk11=>?_);have hd_11:=dst_keep hd fun t e=>hk11 t (by have:=hq t e;omega);refine u_step (g_alloc th83 rfl fun o12 hb12 hk12=>?_);have hd_12:=dst_keep hd_11 fun t e=>hk12 t (by have:=hq t e;omega);have hb11_12:=(hk12 _ (by omega)).trans hb11;refine u_step0 (g_sta rfl rfl th83 rfl hb12 (by first | (simp;done) | (simp [D.leaves,D.width,valCells];done) | decide) fun o13 hb13 hk13=>?_);have hd_13:=dst_keep hd_12 fun t e=>hk13 t (by have:=hq t e;omega);have hb11_13:=(hk13 _ (by omega)).trans hb11_12;refine u_nil ?_;refine wr ?_;refine uM ?_;refine u_step (o_scall (s41 _ hb11_13) rfl ?_);refine uN ?_;refine u_nil ?_;refine wc (fun hc15=>?_) (fun hc15=>?_) <;> try simp only [Q0,Q1,Q2,Q3,Q4,Q5,Q6,Q7,Q8,ge_iff_le,gt_iff_lt] at hc15
   ·
    have hb0:¬ (rdDl s1).2.2=true:=by have hgo:=hc15;simpa using hgo
    refine WP.reg tabOk rfl ?_;refine u_step (o_moveV (v:=c) rfl ?_);refine ug th83 hb13 ?_
    refine u_step (o_bs rfl th28 rfl th83 rfl rfl (by decide) rfl (by decide) (by decide) ?_)
    refine u_step (g_apD2 rfl th28 rfl th83 rfl rfl (by decide) rfl hd_13 (by simp only [List.length_map,List.length_cons,List.length_nil];omega) (by simp only [List.length_map,List.length_cons,List.length_nil];omega) fun o16 hb16 hk16=>?_);have hb11_16:=(hk16 _ (by omega) (fun e=>by have:=hq _ e.symm;omega)).trans hb11_13;have hb13_16:=(hk16 _ (by omega) (fun e=>by have:=hq _ e.symm;omega)).trans hb13;refine uS (u_nil (hK9 _ (WP.reg tabOk rfl ?_)));refine ub (um (u_nil ?_));refine ⟨⟨i+1,(rdDl s1).2,ds++[(rdDl s1).1],.row _,some _,o16,((nk2+1)+1)⟩,⟨by omega,by omega,by have:=rdDl_le s1;omega,by simp;omega,?_,hb11_16,(mapD_snoc ds _).symm ▸ dst_row hb16,fun t e=>by injection e with e;omega,(fun t ht=>(hk16 t (by omega) (fun e=>by have:=hq _ e.symm;omega)).trans ((hk13 t (by omega)).trans ((hk12 t (by omega)).trans ((hk11 t (by omega)).trans ((hfr t (by omega)))))))⟩,by simp only;omega,Le.al ?_⟩
    ·rw [← heq,show (cntS s 64).1.toNat - i=((cntS s 64).1.toNat - (i+1))+1 by omega];simp only [rdDls];rw [if_neg hb0]
    ·simp only [List.forall_mem_cons];exact ⟨rfl,rfl,rfl,cnt (by omega),by simp⟩
   ·
    have hb0:(rdDl s1).2.2=true:=by have hgo:=hc15;simpa using hgo
    refine WP.skip (hK9 _ (WP.reg tabOk rfl ?_));refine ub (um (u_nil ?_));refine ⟨⟨i+1,(rdDl s1).2,ds,c,q,o13,(nk2+1)⟩,⟨by omega,by omega,by have:=rdDl_le s1;omega,by omega,?_,hb11_13,hd_13,fun t e=>by have:=hq t e;omega,(fun t ht=>(hk13 t (by omega)).trans ((hk12 t (by omega)).trans ((hk11 t (by omega)).trans ((hfr t (by omega))))))⟩,by simp only;omega,Le.al ?_⟩
    ·rw [← heq,show (cntS s 64).1.toNat - i=((cntS s 64).1.toNat - (i+1))+1 by omega];simp only [rdDls];rw [if_pos hb0]
    ·simp only [List.forall_mem_cons];exact ⟨rfl,rfl,rfl,cnt (by omega),by simp⟩
  ·
   have hge:(cntS s 64).1.toNat - i=0:=by have hgo:=hc8;(try simp at hgo);omega
   have hfin:rdDls (cntS s 64).1.toNat (cntS s 64).2 []=(ds,s1):=by rw [← heq,hge];rfl
   have hrd:rdDsP s=rdDq (ds,s1):=by unfold rdDsP;rw [hfin]
   refine WP.exit ?_;refine hK3 _ ?_;refine WP.seq fun K17 hK17=>?_;refine wr ?_;refine uM ?_;refine u_step (o_scall (s41 s1 hsk) rfl ?_);refine u_nil ?_;refine wc (fun hc19=>?_) (fun hc19=>?_) <;> try simp only [Q0,Q1,Q2,Q3,Q4,Q5,Q6,Q7,Q8,ge_iff_le,gt_iff_lt] at hc19
   ·
    have hr:rdDsP s=([],s1):=hrd.trans (rdDq_no (by simpa using hc19));refine wr (ua (u_nil (WP.ret ?_)));refine retMW_ok rfl ?_ (by omega) (by rw [hr];exact hsk) (fun t ht=>(hfr t (by omega)));rw [hr];exact rfl
   ·
    have hr:rdDsP s=(ds,s1):=hrd.trans (rdDq_ok (by simpa using hc19));refine WP.skip (hK17 _ ?_);refine WP.frzS (fun y=>[(0,.loc k 0),(3,.d y)]) nk hd (fun t h1 h2=>by subst h2;simp only [List.forall_mem_cons];exact ⟨rfl,(show SV.frz t (.sl 8 (ds.map encD)) (.row t)=_ from if_pos rfl),by simp⟩) (fun h2=>by subst h2;simp only [List.forall_mem_cons];exact ⟨rfl,rfl,by simp⟩) fun y o9 hy hk9=>?_;have hF9:∀ t,t < nk→o9 t=o2 t:=fun t ht=>hk9 t ht (fun h=>by have:=hq t h;omega);have hM9:=(hF9 _ hkn).trans hsk;refine wr (um (ua (u_nil (WP.ret ?_))));refine retMW_ok rfl ?_ (by omega) (by rw [hr];exact hM9) (fun t ht=>(hF9 t (by omega)).trans ((hfr t (by omega))));rw [hr];exact hy
 ·
  refine ⟨by omega,by omega,by omega,by simp,rfl,hb5,rfl,by simp,(fun t ht=>(hk5 t (by omega)))⟩
 ·
  refine Le.al ?_;simp only [List.forall_mem_cons];exact ⟨rfl,rfl,rfl,rfl,by simp⟩
theorem PSpec.wk {P:Program} {f:FuncId} {us:List SV} {x x':D} (h:PSpec P f us (.d x')) (hx:D.le x' x):PSpec P f us (.d x):=fun o nk=>Spec.weak (Q:=fun o' nk'=>o'=o∧nk'=nk) ((h o nk).mono fun r o' nk' h=>⟨⟨x',h.1,hx⟩,h.2⟩)
theorem fn36:FnOk Tryz.prog 36 6 [2] (bodyOf Tryz.f36):=⟨Tryz.f36,Tryz.func36,by kernel_rfl,by decide,by kernel_rfl,by kernel_rfl⟩
theorem s36 (b:List UInt8) (o:Nat→Option AO) (nk:Nat):Spec Tryz.prog 36 [.d (.sl 1 (b.map encB))] o nk (fun r' o' nk'=>r'=.loc nk 0∧o'=upd o nk (some (.box (srcS (b,false))))∧nk'=nk+1):=by
 refine Spec.of_body fn36 (by simp) ?_;refine wr (ua (u_nil (wr (um ?_))));refine u_step (o_bu rfl th102 rfl rfl ?_);refine u_step (g_box rfl fun o3 hb3 hk3=>?_);refine uT (u_nil (WP.ret ?_));refine ⟨rfl,funext fun t=>?_,rfl⟩;by_cases ht:t=nk
 ·subst ht;rw [upd_same];exact hb3
 ·rw [upd_ne _ _ ht];exact (show ∀ t:Nat,t≠nk→o3 t=o t from (fun t ht=>(hk3 t (by omega)))) t ht
theorem any_bad (s:Str):s.any badC=decide ((36:UInt8)∈s∨(0:UInt8)∈s):=by
 rw [Bool.eq_iff_iff];simp only [List.any_eq_true,decide_eq_true_eq,badC];constructor
 ·rintro ⟨x,hx,rfl | rfl⟩
  ·exact .inl hx
  ·exact .inr hx
 ·rintro (h | h)
  ·exact ⟨_,h,.inl rfl⟩
  ·exact ⟨_,h,.inr rfl⟩
theorem badC_get {s:Str} {i:Nat} (h:i < s.length):decide ((s[((i:Int)).toNat]?.getD 0).toNat=36∨(s[((i:Int)).toNat]?.getD 0).toNat=0)=badC (s[i]'h):=by
 rw [badC_nat];simp [h]
theorem fn150:FnOk Tryz.prog 150 55 [4] (bodyOf Tryz.f150):=⟨Tryz.f150,Tryz.func150,by kernel_rfl,by decide,by kernel_rfl,by kernel_rfl⟩
theorem s150 (s:Str):PSpec Tryz.prog 150 [.d (.str s),.d (.str [36,0])] (.d (.int .i64 (anyI s))):=by
 refine PSpec.bd fun hbd=>?_;have hx:s.length≤9223372036854775807:=hbd.1;refine PSpec.of fn150 (by simp) fun o nk=>?_;refine wr ?_;refine ua ?_;refine u_nil ?_;refine WP.seq fun K2 hK2=>?_;refine wr ?_;refine um ?_;refine u_step (o_bin_str rfl (show _=SV.d (.str []) from rfl) rfl ?_);refine u_nil ?_;refine wc (fun hc4=>?_) (fun hc4=>?_) <;> try simp only [Q0,Q1,Q2,Q3,Q4,Q5,Q6,Q7,Q8,ge_iff_le,gt_iff_lt] at hc4
 ·
  exact absurd hc4 (by decide)
 ·
  refine WP.skip ?_;refine hK2 _ ?_;refine WP.seq fun K5 hK5=>?_;refine wr ?_;refine um ?_;refine u_step (o_len_str rfl th9 rfl ?_);refine ub ?_;refine u_nil ?_;refine wc (fun hc7=>?_) (fun hc7=>?_) <;> try simp only [Q0,Q1,Q2,Q3,Q4,Q5,Q6,Q7,Q8,ge_iff_le,gt_iff_lt] at hc7
  ·
   exact absurd hc7 (by decide)
  ·
   refine WP.skip ?_;refine hK5 _ ?_;refine WP.seq fun K8 hK8=>?_;refine wr ?_;refine um ?_;refine u_step (o_len_str rfl th9 rfl ?_);refine u_step (o_pcall (s176 _) rfl ?_);refine u_nil ?_;refine wc (fun hc10=>?_) (fun hc10=>?_) <;> try simp only [Q0,Q1,Q2,Q3,Q4,Q5,Q6,Q7,Q8,ge_iff_le,gt_iff_lt] at hc10
   ·
    refine wr ?_;refine um ?_;refine u_step (o_pcall (s177) rfl ?_);refine u_step (o_moveV (v:=.tup _) rfl ?_);refine ue ?_;refine ue ?_;refine u_step (g_alloc th149 rfl fun o12 hb12 hk12=>?_);refine u_step0 (g_sta rfl rfl th149 rfl hb12 (by simp [setA]) fun o13 hb13 hk13=>?_);have hb13:_=some (AO.box ((setA 2).map .d)):=(hb13).trans (by simp [setA]);refine ua ?_;refine u_nil ?_;refine wr ?_;refine um ?_;refine u_nil ?_;refine wc (fun hc15=>?_) (fun hc15=>?_) <;> try simp only [Q0,Q1,Q2,Q3,Q4,Q5,Q6,Q7,Q8,ge_iff_le,gt_iff_lt] at hc15
    ·
     refine WP.seq fun K16 hK16=>?_;refine wr (ua (u_nil (WP.block ?_)));refine WP.loopL (ι:=Nat) (fun i=>⟨al [(0,.d (.str s)),(6,.loc nk 0),(8,.d (.int .i64 i))],o13,(nk+1)⟩) (fun i=>i≤s.length∧∀ (j:Nat) (hj:j < s.length),j < i→badC (s[j]'hj)=false) (fun i=>s.length - i) (fun i hA=>?_) 0 ?_ ?_
     ·
      obtain ⟨hle_i,hin_i⟩:=hA;refine WP.seq fun K18 hK18=>?_;refine wr ?_;refine um ?_;refine um ?_;refine u_step (o_len_str rfl th9 rfl ?_);refine ub ?_;refine u_nil ?_;refine wc (fun hc20=>?_) (fun hc20=>?_) <;> try simp only [Q0,Q1,Q2,Q3,Q4,Q5,Q6,Q7,Q8,ge_iff_le,gt_iff_lt] at hc20
      ·
       refine WP.skip (hK18 _ (WP.seq fun K21 hK21=>?_));refine WP.block (wr (um (um ?_)));refine u_step (o_ix rfl rfl th9 rfl ?_ ?_ ?_)
       ·omega
       ·simp;omega
       refine u_step (o_scall (s178 (c:=(s[((i:Int)).toNat]?.getD 0).toNat) hb13 (by omega) (UInt8.toNat_lt _)) rfl ?_);refine u_nil ?_;refine wc (fun hc23=>?_) (fun hc23=>?_) <;> try simp only [Q0,Q1,Q2,Q3,Q4,Q5,Q6,Q7,Q8,ge_iff_le,gt_iff_lt] at hc23
       ·
        refine wr (um (ua (u_nil (WP.ret ?_))));refine ret_ok rfl ?_ (by omega) (fun t ht=>(hk13 t (by omega)).trans ((hk12 t (by omega))));refine congrArg (D.int .i64) ?_;exact (firstI_at (p:=badC) (xs:=s) (i:=i) (by omega) (by rw [← badC_get (by omega)];exact decide_eq_true hc23) hin_i).symm
       ·
        refine WP.skip (hK21 _ (WP.reg tabOk rfl ?_));refine um (ub (ua (u_nil ?_)));refine ⟨i+1,⟨by omega,?_⟩,by omega,?_⟩
        ·intro j hj h1;by_cases h2:j=i
         ·subst h2;rw [← badC_get (by omega)];exact decide_eq_false hc23
         ·exact hin_i j hj (by omega)
        ·refine Le.al ?_;simp only [List.forall_mem_cons];exact ⟨rfl,rfl,cnt (by omega),by simp⟩
      ·
       refine WP.exit ?_;refine hK16 _ (wr (ua (u_nil (WP.ret ?_))));refine ret_ok rfl ?_ (by omega) (fun t ht=>(hk13 t (by omega)).trans ((hk12 t (by omega))));refine congrArg (D.int .i64) ?_;exact (firstI_none (p:=badC) (xs:=s) fun j hj=>hin_i j hj (by omega)).symm
     ·
      simp
     ·
      refine Le.al ?_;simp only [List.forall_mem_cons];exact ⟨rfl,rfl,rfl,by simp⟩
    ·
     cases hc15
   ·
    refine WP.skip (hK8 _ (WP.seq fun K26 hK26=>?_));refine wr (um ?_);refine u_step (g_range rfl th9 rfl fun o28 hb28 hk28=>?_);refine u_nil (WP.block ?_);refine WP.loopL (ι:=Nat×(Nat→Option AO)) (fun ⟨i,o2⟩=>⟨al [(0,.d (.str s)),(1,.d (.str [36,0])),(45,.raw nk)],o2,(nk+1)⟩) (fun ⟨i,o2⟩=>i≤s.length∧o2 nk=some (.raw (itOb s i))∧(∀ t,t < nk→o2 t=o t)∧∀ (j:Nat) (hj:j < s.length),j < i→badC (s[j]'hj)=false) (fun ⟨i,o2⟩=>s.length - i) (fun ⟨i,o2⟩ hA=>?_) ⟨0,o28⟩ ?_ ?_
    ·
     obtain ⟨hle,hob,hfr,hin⟩:=hA;refine wr ?_;refine u_step (g_next rfl hob (fun hp30 o30 hb30 hk30=>?_) (fun hp30=>?_))
     ·
      have hlt:i < s.length:=hp30;obtain ⟨hd1,hd2,hd3,hd4⟩:=dec_at hlt;refine ue ?_;refine u_nil ?_;refine WP.seq fun K31 hK31=>?_;refine WP.cond rfl (fun hc32=>?_) (fun hc32=>by cases hc32);refine WP.skip ?_;refine hK31 _ ?_;refine WP.block ?_;refine wr ?_;refine ue ?_;refine ue ?_;refine ua ?_;refine ua ?_;refine u_nil ?_;refine wr ?_;refine um ?_;refine um ?_;refine u_step (o_pcall (s175 _ (by omega) (by have:=dec_bd ⟨s.toArray⟩ i;omega)) rfl ?_);refine ub ?_;refine u_nil ?_;refine wc (fun hc35=>?_) (fun hc35=>?_) <;> try simp only [Q0,Q1,Q2,Q3,Q4,Q5,Q6,Q7,Q8,ge_iff_le,gt_iff_lt] at hc35
      ·
       refine wr (um (ua (u_nil (WP.ret ?_))));refine ret_ok rfl ?_ (by omega) (fun t ht=>(hk30 t (by omega)).trans ((hfr t (by omega))));refine congrArg (D.int .i64) ?_;exact (firstI_at (p:=badC) (xs:=s) (i:=i) (by omega) (by rw [← hd4];exact decide_eq_true hc35) hin).symm
      ·
       refine WP.skip ?_;refine ⟨⟨i+_,o30⟩,⟨by omega,hb30,(fun t ht=>(hk30 t (by omega)).trans ((hfr t (by omega)))),?_⟩,by simp only;omega,?_⟩
       ·intro j hj h1;rcases Nat.lt_trichotomy j i with h2 | h2 | h2
        ·exact hin j hj h2
        ·subst h2;rw [← hd4];exact decide_eq_false hc35
        ·exact hd3 j hj h2 h1
       ·refine Le.al ?_;simp only [List.forall_mem_cons];exact ⟨rfl,rfl,rfl,by simp⟩
     ·
      refine ue (u_nil (WP.seq fun K37 hK37=>?_));refine WP.cond rfl (fun hc38=>by cases hc38) (fun hc38=>?_);refine WP.exit ?_;refine hK26 _ (wr (ua (u_nil (WP.ret ?_))));refine ret_ok rfl ?_ (by omega) (fun t ht=>(hfr t (by omega)));refine congrArg (D.int .i64) ?_;exact (firstI_none (p:=badC) (xs:=s) fun j hj=>hin j hj (by omega)).symm
    ·
     exact ⟨by omega,hb28,(fun t ht=>(hk28 t (by omega))),by simp⟩
    ·
     refine Le.al ?_;simp only [List.forall_mem_cons];exact ⟨rfl,rfl,rfl,by simp⟩
theorem fn103:FnOk Tryz.prog 103 9 [4] (bodyOf Tryz.f103):=⟨Tryz.f103,Tryz.func103,by kernel_rfl,by decide,by kernel_rfl,by kernel_rfl⟩
theorem s103 (s:Str):PSpec Tryz.prog 103 [.d (.str s),.d (.str [36,0])] (.d (.bool (s.any badC))):=by
 refine PSpec.of fn103 (by simp) fun o nk=>?_;refine wr (ua (u_nil (wr (um (um ?_)))));refine u_step (o_pcall (s150 s) rfl ?_);refine ub (ua (u_nil (WP.ret ?_)));refine ret_ok rfl ?_ (by omega) (fun _ _=>rfl);rw [← firstI_nn];rfl
theorem fn48:FnOk Tryz.prog 48 16 [2] (bodyOf Tryz.f48):=⟨Tryz.f48,Tryz.func48,by kernel_rfl,by decide,by kernel_rfl,by kernel_rfl⟩
theorem s48 (s:Str):PSpec Tryz.prog 48 [.d (.str s)] (.d (.bool (collV s))):=by
 refine PSpec.of fn48 (by simp) fun o nk=>?_;refine wr (ua (u_nil (wr (um ?_))));refine u_step (o_len_str rfl th9 rfl ?_);refine ub (um ?_);apply gT
 ·rfl
 ·intro hg;exact pm
 apply gT
 ·rfl
 ·intro hg;try simp only [hg,ct,Bt]
  refine o_len_str rfl th9 rfl ⟨rfl,rfl,rfl⟩
 apply gT
 ·rfl
 ·intro hg;try simp only [hg,ct,Bt]
  exact pb
 refine uA (um ?_);apply gT
 ·rfl
 ·intro hg;exact pm
 apply gT
 ·rfl
 ·intro hg;try simp only [hg,ct,Bt]
  refine o_pcall (s103 s) rfl ⟨rfl,rfl,rfl⟩
 apply gT
 ·rfl
 ·intro hg;try simp only [hg,ct,Bt]
  exact pN
 refine uA (ua (u_nil (WP.ret ?_)));refine ret_ok rfl ?_ (by omega) (fun _ _=>rfl);refine congrArg D.bool ?_;rw [any_bad,Bool.eq_iff_iff];simp only [collV,Bool.and_eq_true,decide_eq_true_eq,Bool.not_eq_true',decide_eq_false_iff_not,not_or];constructor
 ·rintro ⟨⟨h1,h2⟩,h3,h4⟩;exact ⟨by omega,by omega,h3,h4⟩
 ·rintro ⟨h1,h2,h3,h4⟩;exact ⟨⟨by omega,by omega⟩,h3,h4⟩
def hasC (k:Int):Bool:=decide (2≤k) && decide (k≤7)
def hasT (k:Int):Bool:=decide (k=7)
def hasI (k:Int):Bool:=decide (k=2) || decide (k=3) || decide (k=4)
def hasD (k:Int):Bool:=decide (k=2)
def hasS (k:Int):Bool:=decide (k=3)
theorem s64b (k:Int):PSpec Tryz.prog 64 [.d (.int .i64 k)] (.tup [.d (.bool (hasC k)),.d (.bool (hasT k)),.d (.bool (hasI k)),.d (.bool (hasD k)),.d (.bool (hasS k))]):=by
 have h:=s64 k;have e:(hasL k).map SV.d=[.d (.bool (hasC k)),.d (.bool (hasT k)),.d (.bool (hasI k)),.d (.bool (hasD k)),.d (.bool (hasS k))]:=by
  unfold hasL hasC hasT hasI hasD hasS;by_cases h2:k=2
  ·subst h2;rfl
  ·by_cases h3:k=3
   ·subst h3;rfl
   ·by_cases h4:k=4
    ·subst h4;rfl
    ·by_cases h5:k=5
     ·subst h5;rfl
     ·by_cases h6:k=6
      ·subst h6;rfl
      ·by_cases h7:k=7
       ·subst h7;rfl
       ·have:(decide (2≤k) && decide (k≤7))=false:=by simp;omega
        simp [h2,h3,h4,h5,h6,h7,this]
 rwa [e] at h
structure Bits (k:Int):Prop where
 t1:(bitsOf .and .i64 (fieldsV k) 2 != 0)=hasT k
 t0:(bitsOf .and .i64 (fieldsV k) 2 == 0)=!hasT k
 c1:(bitsOf .and .i64 (fieldsV k) 1 != 0)=hasC k
 c0:(bitsOf .and .i64 (fieldsV k) 1 == 0)=!hasC k
 i1:(bitsOf .and .i64 (fieldsV k) 4 != 0)=hasI k
 i0:(bitsOf .and .i64 (fieldsV k) 4 == 0)=!hasI k
 d1:(bitsOf .and .i64 (fieldsV k) 8 != 0)=hasD k
 d0:(bitsOf .and .i64 (fieldsV k) 8 == 0)=!hasD k
 s1:(bitsOf .and .i64 (fieldsV k) 16 != 0)=hasS k
 s0:(bitsOf .and .i64 (fieldsV k) 16 == 0)=!hasS k
theorem bits_of {k:Int} (h:1≤k∧k≤7):Bits k:=by
 obtain rfl | rfl | rfl | rfl | rfl | rfl | rfl:k=1∨k=2∨k=3∨k=4∨k=5∨k=6∨k=7:=by omega
 all_goals exact ⟨by decide,by decide,by decide,by decide,by decide,by decide,by decide,by decide,by decide,by decide⟩
theorem fields_ok (k:Int):decide (fieldsV k < 0)=!(decide (1≤k) && decide (k≤7)):=by
 by_cases h:1≤k∧k≤7
 ·obtain rfl | rfl | rfl | rfl | rfl | rfl | rfl:k=1∨k=2∨k=3∨k=4∨k=5∨k=6∨k=7:=by omega
  all_goals rfl
 ·have:fieldsV k=-1:=by
   unfold fieldsV;rw [if_neg (by omega),if_neg (by omega),if_neg (by omega),if_neg (by omega),if_neg (by omega),if_neg (by omega)]
  rw [this,Bool.eq_iff_iff];simp;omega
def namesE (e:Etr):Bool:=(if hasT e.kind=true then collV e.to && !decide (e.to=e.coll) else decide (e.to=[])) && (if hasC e.kind=true then collV e.coll else decide (e.coll=[]))
noncomputable def valuesE (e:Etr):Bool:=(hasI e.kind || noneV e.id) && (hasD e.kind || noneV e.doc) && (hasS e.kind || decide (e.deltas.length=0)) && (!hasI e.kind || decide (checkV e.id=0)) && (!hasD e.kind || mayDocV e.doc e.id) && (!hasS e.kind || mayDeltasV e.deltas)
noncomputable def mayE (e:Etr):Bool:=(decide (1≤e.kind) && decide (e.kind≤7)) && (decide (0≤e.term) && decide (e.term≤1099511627776)) && (decide (0≤e.session) && decide (e.session≤255)) && (decide (0≤e.number) && decide (e.number≤1099511627776)) && (!decide (e.kind=1) || decide (e.session=0) && decide (e.number=0)) && namesE e && valuesE e
structure OkE (e:Etr):Prop where
 ri:rngV e.id
 si:szV e.id≤1099511627776
 rd:rngV e.doc
 sd:szV e.doc≤1099511627776
 ds:e.deltas.length≤64→∀ d∈e.deltas,okD d
theorem coll_nil:collV []=false:=by decide
theorem d_imp_i {k:Int} (h:hasD k=true):hasI k=true:=by
 unfold hasD at h;unfold hasI;simp at h;simp [h]
theorem pvE {P:Program} {f:FuncId} {v w:Val} {r:SV} (h:PSpec P f [.d (encV v),.d (encV w)] r):PSpec P f [.d (.agg (valCells v)),.d (.agg (valCells w))] r:=by
 rw [encV_eq,encV_eq] at h;exact h
theorem fn101:FnOk Tryz.prog 101 40 [4] (bodyOf Tryz.f101):=⟨Tryz.f101,Tryz.func101,by kernel_rfl,by decide,by kernel_rfl,by kernel_rfl⟩
theorem s101 (e:Etr) (hk:1≤e.kind∧e.kind≤7):PSpec Tryz.prog 101 [.d (encE e),.d (.int .i64 (fieldsV e.kind))] (.d (.bool (namesE e))):=by
 have hb:=bits_of hk;refine PSpec.of fn101 (by simp) fun o nk=>?_;refine wr ?_;refine u_step (g_box rfl fun o2 hb2 hk2=>?_);refine ua (u_nil (WP.seq fun K3 hK3=>?_));refine wr (um (ub (ub (um ?_))));apply gT
 ·rfl
 ·intro hg;exact pf th30 th9 hb2
 apply gT
 ·rfl
 ·intro hg;try simp only [hg,ct,Bt]
  exact pl th9 hb2
 apply gT
 ·rfl
 ·intro hg;try simp only [hg,ct,Bt]
  refine o_pcall (s48 _) rfl ⟨rfl,rfl,rfl⟩
 apply gT
 ·rfl
 ·intro hg;try simp only [hg,ct,Bt]
  exact pN
 apply gT
 ·rfl
 ·intro hg;try simp only [hg,ct,Bt]
  exact pm
 apply u_guard
 ·exact GC.cf _ _
 ·intro hg;exact pf th30 th9 hb2
 apply u_guard
 ·exact GC.cf _ _
 ·intro hg;try simp only [hg,ct,Bt]
  exact pl th9 hb2
 apply u_guard
 ·exact GC.cf _ _
 ·intro hg;exact pf th30 th9 hb2
 apply u_guard
 ·exact GC.cf _ _
 ·intro hg;try simp only [hg,ct,Bt]
  exact pl th9 hb2
 apply u_guard
 ·exact GC.cf _ _
 ·intro hg;try simp only [hg,ct,Bt]
  exact ps
 apply gT
 ·rfl
 ·intro hg;try simp only [hg,ct,Bt]
  exact pO
 refine uA (um ?_);apply gF
 ·rfl
 ·intro hg;exact pm
 apply gF
 ·rfl
 ·intro hg;try simp only [hg,ct,Bt]
  exact pb
 apply gF
 ·rfl
 ·intro hg;try simp only [hg,ct,Bt]
  exact pb
 apply gF
 ·rfl
 ·intro hg;try simp only [hg,ct,Bt]
  exact pm
 apply u_guard
 ·exact GC.ct _ _
 ·intro hg;exact pf th30 th9 hb2
 apply u_guard
 ·exact GC.ct _ _
 ·intro hg;try simp only [hg,ct,Bt]
  exact pl th9 hb2
 apply u_guard
 ·exact GC.ct _ _
 ·intro hg;try simp only [hg,ct,Bt]
  refine o_bin_str rfl (show _=SV.d (.str []) from rfl) rfl ⟨rfl,rfl,rfl⟩
 apply gF
 ·rfl
 ·intro hg;try simp only [hg,ct,Bt]
  exact pA
 refine uO ?_;refine u_nil ?_;refine wc (fun hc5=>?_) (fun hc5=>?_) <;> try simp only [Q0,Q1,Q2,Q3,Q4,Q5,Q6,Q7,Q8,ge_iff_le,gt_iff_lt] at hc5
 ·
  refine wr (ua (u_nil (WP.ret ?_)));refine ret_ok rfl ?_ (by omega) (fun t ht=>(hk2 t (by omega)));clear hK3;refine congrArg D.bool ?_
  try simp only [hb.t1,hb.t0,hb.c1,hb.c0,hb.i1,hb.i0,hb.d1,hb.d0,hb.s1,hb.s0] at hc5
  try simp only [hb.t1,hb.t0,hb.c1,hb.c0,hb.i1,hb.i0,hb.d1,hb.d0,hb.s1,hb.s0]
  simp only [namesE,List.length_map] at *
  grind
 ·
  refine WP.skip ?_;refine hK3 _ ?_;refine WP.seq fun K7 hK7=>?_;refine wr ?_;refine um ?_;refine ub ?_;refine ub ?_;refine u_nil ?_;refine wc (fun hc9=>?_) (fun hc9=>?_) <;> try simp only [Q0,Q1,Q2,Q3,Q4,Q5,Q6,Q7,Q8,ge_iff_le,gt_iff_lt] at hc9
  ·
   refine wr (uf th30 th9 hb2 ?_);refine ul th9 hb2 ?_;refine u_step (o_pcall (s48 _) rfl ?_);refine ua (u_nil (WP.ret ?_));refine ret_ok rfl ?_ (by omega) (fun t ht=>(hk2 t (by omega)));clear hK3 hK7;refine congrArg D.bool ?_
   try simp only [hb.t1,hb.t0,hb.c1,hb.c0,hb.i1,hb.i0,hb.d1,hb.d0,hb.s1,hb.s0] at hc5 hc9
   try simp only [hb.t1,hb.t0,hb.c1,hb.c0,hb.i1,hb.i0,hb.d1,hb.d0,hb.s1,hb.s0]
   simp only [namesE,List.length_map] at *
   grind
  ·
   refine WP.skip (hK7 _ (wr (uf th30 th9 hb2 ?_)));refine ul th9 hb2 ?_;refine u_step (o_bin_str rfl (show _=SV.d (.str []) from rfl) rfl ?_);refine ua (u_nil (WP.ret ?_));refine ret_ok rfl ?_ (by omega) (fun t ht=>(hk2 t (by omega)));clear hK3 hK7;refine congrArg D.bool ?_
   try simp only [hb.t1,hb.t0,hb.c1,hb.c0,hb.i1,hb.i0,hb.d1,hb.d0,hb.s1,hb.s0] at hc5 hc9
   try simp only [hb.t1,hb.t0,hb.c1,hb.c0,hb.i1,hb.i0,hb.d1,hb.d0,hb.s1,hb.s0]
   simp only [namesE,List.length_map] at *
   grind
theorem fn102:FnOk Tryz.prog 102 63 [4] (bodyOf Tryz.f102):=⟨Tryz.f102,Tryz.func102,by kernel_rfl,by decide,by kernel_rfl,by kernel_rfl⟩
theorem s102 (e:Etr) (hk:1≤e.kind∧e.kind≤7) (ok:OkE e):PSpec Tryz.prog 102 [.d (encE e),.d (.int .i64 (fieldsV e.kind))] (.d (.bool (valuesE e))):=by
 have hb:=bits_of hk;refine PSpec.of fn102 (by simp) fun o nk=>?_;refine wr ?_;refine u_step (g_box rfl fun o2 hb2 hk2=>?_);refine ua (u_nil (WP.seq fun K3 hK3=>?_));refine WP.block (WP.seq fun K4 hK4=>?_);refine wr (um (ub (ub (um ?_))));apply gT
 ·rfl
 ·intro hg;exact pf th30 th27 hb2
 apply gT
 ·rfl
 ·intro hg;try simp only [hg,ct,Bt]
  exact pg th27 hb2
 apply gT
 ·rfl
 ·intro hg;try simp only [hg,ct,Bt]
  refine o_pcall (pv (v:=e.id) (s147 e.id ok.si)) rfl ⟨rfl,rfl,rfl⟩
 apply gT
 ·rfl
 ·intro hg;try simp only [hg,ct,Bt]
  exact pN
 refine uA ?_;refine ua ?_;refine u_nil ?_;refine wc (fun hc6=>?_) (fun hc6=>?_) <;> try simp only [Q0,Q1,Q2,Q3,Q4,Q5,Q6,Q7,Q8,ge_iff_le,gt_iff_lt] at hc6
 ·
  refine WP.skip ?_;refine hK4 _ ?_;refine wc (fun hc7=>?_) (fun hc7=>?_) <;> try simp only [Q0,Q1,Q2,Q3,Q4,Q5,Q6,Q7,Q8,ge_iff_le,gt_iff_lt] at hc7
  ·
   refine wr (ua (u_nil (WP.ret ?_)));refine ret_ok rfl ?_ (by omega) (fun t ht=>(hk2 t (by omega)));clear hK3 hK4;refine congrArg D.bool ?_
   try simp only [hb.t1,hb.t0,hb.c1,hb.c0,hb.i1,hb.i0,hb.d1,hb.d0,hb.s1,hb.s0] at hc6 hc7
   try simp only [hb.t1,hb.t0,hb.c1,hb.c0,hb.i1,hb.i0,hb.d1,hb.d0,hb.s1,hb.s0]
   simp only [valuesE,List.length_map] at *
   grind
  ·
   refine wr (um (ub (ub (um ?_))));apply gT
   ·rfl
   ·intro hg;exact pf th30 th27 hb2
   apply gT
   ·rfl
   ·intro hg;try simp only [hg,ct,Bt]
    exact pg th27 hb2
   apply gT
   ·rfl
   ·intro hg;try simp only [hg,ct,Bt]
    refine o_pcall (pv (v:=e.id) (s123 e.id ok.ri ok.si)) rfl ⟨rfl,rfl,rfl⟩
   apply gT
   ·rfl
   ·intro hg;try simp only [hg,ct,Bt]
    exact pb
   refine uA ?_;refine ua ?_;refine u_nil ?_;refine wc (fun hc10=>?_) (fun hc10=>?_) <;> try simp only [Q0,Q1,Q2,Q3,Q4,Q5,Q6,Q7,Q8,ge_iff_le,gt_iff_lt] at hc10
   ·
    refine wr (ua (u_nil (WP.ret ?_)));refine ret_ok rfl ?_ (by omega) (fun t ht=>(hk2 t (by omega)));clear hK3 hK4;refine congrArg D.bool ?_
    try simp only [hb.t1,hb.t0,hb.c1,hb.c0,hb.i1,hb.i0,hb.d1,hb.d0,hb.s1,hb.s0] at hc6 hc7 hc10
    try simp only [hb.t1,hb.t0,hb.c1,hb.c0,hb.i1,hb.i0,hb.d1,hb.d0,hb.s1,hb.s0]
    simp only [valuesE,List.length_map] at *
    grind
   ·
    refine wr (um (ub (ub (um ?_))));apply gT
    ·rfl
    ·intro hg;exact pf th30 th27 hb2
    apply gT
    ·rfl
    ·intro hg;try simp only [hg,ct,Bt]
     exact pg th27 hb2
    apply gT
    ·rfl
    ·intro hg;exact pf th30 th27 hb2
    apply gT
    ·rfl
    ·intro hg;try simp only [hg,ct,Bt]
     exact pg th27 hb2
    apply gT
    ·rfl
    ·intro hg;try simp only [hg,ct,Bt]
     refine o_pcall (pvE (v:=e.doc) (w:=e.id) (s148 e.doc e.id ok.rd ok.sd (by simp only [hb.d1] at hg;have hi:=d_imp_i hg;have hq:=hc10;simp only [hb.i1,hi,Bool.true_and,bne_eq_false_iff_eq] at hq;exact check_may hq))) rfl ⟨rfl,rfl,rfl⟩
    apply gT
    ·rfl
    ·intro hg;try simp only [hg,ct,Bt]
     exact pN
    refine uA ?_;refine ua ?_;refine u_nil ?_;refine wc (fun hc13=>?_) (fun hc13=>?_) <;> try simp only [Q0,Q1,Q2,Q3,Q4,Q5,Q6,Q7,Q8,ge_iff_le,gt_iff_lt] at hc13
    ·
     refine wr (ua (u_nil (WP.ret ?_)));refine ret_ok rfl ?_ (by omega) (fun t ht=>(hk2 t (by omega)));clear hK3 hK4;refine congrArg D.bool ?_
     try simp only [hb.t1,hb.t0,hb.c1,hb.c0,hb.i1,hb.i0,hb.d1,hb.d0,hb.s1,hb.s0] at hc6 hc7 hc10 hc13
     try simp only [hb.t1,hb.t0,hb.c1,hb.c0,hb.i1,hb.i0,hb.d1,hb.d0,hb.s1,hb.s0]
     simp only [valuesE,List.length_map] at *
     grind
    ·
     refine WP.skip (hK3 _ (wr (um (ub (ub (um ?_))))));apply gF
     ·rfl
     ·intro hg;exact pf th30 th28 hb2
     apply gF
     ·rfl
     ·intro hg;try simp only [hg,ct,Bt]
      exact pl th28 hb2
     apply gF
     ·rfl
     ·intro hg;try simp only [hg,ct,Bt]
      refine o_pcall (s149 e.deltas ok.ds) rfl ⟨rfl,rfl,rfl⟩
     refine uO (ua (u_nil (WP.ret ?_)));refine ret_ok rfl ?_ (by omega) (fun t ht=>(hk2 t (by omega)));clear hK3 hK4;refine congrArg D.bool ?_
     try simp only [hb.t1,hb.t0,hb.c1,hb.c0,hb.i1,hb.i0,hb.d1,hb.d0,hb.s1,hb.s0] at hc6 hc7 hc10 hc13
     try simp only [hb.t1,hb.t0,hb.c1,hb.c0,hb.i1,hb.i0,hb.d1,hb.d0,hb.s1,hb.s0]
     simp only [valuesE,List.length_map] at *
     grind
 ·
  refine wr (um (ub (ub (um ?_))));apply gT
  ·rfl
  ·intro hg;exact pf th30 th27 hb2
  apply gT
  ·rfl
  ·intro hg;try simp only [hg,ct,Bt]
   exact pg th27 hb2
  apply gT
  ·rfl
  ·intro hg;try simp only [hg,ct,Bt]
   refine o_pcall (pv (v:=e.doc) (s147 e.doc ok.sd)) rfl ⟨rfl,rfl,rfl⟩
  apply gT
  ·rfl
  ·intro hg;try simp only [hg,ct,Bt]
   exact pN
  refine uA ?_;refine ua ?_;refine u_nil ?_;refine wc (fun hc17=>?_) (fun hc17=>?_) <;> try simp only [Q0,Q1,Q2,Q3,Q4,Q5,Q6,Q7,Q8,ge_iff_le,gt_iff_lt] at hc17
  ·
   refine WP.skip ?_;refine hK4 _ ?_;refine wc (fun hc18=>?_) (fun hc18=>?_) <;> try simp only [Q0,Q1,Q2,Q3,Q4,Q5,Q6,Q7,Q8,ge_iff_le,gt_iff_lt] at hc18
   ·
    refine wr (ua (u_nil (WP.ret ?_)));refine ret_ok rfl ?_ (by omega) (fun t ht=>(hk2 t (by omega)));clear hK3 hK4;refine congrArg D.bool ?_
    try simp only [hb.t1,hb.t0,hb.c1,hb.c0,hb.i1,hb.i0,hb.d1,hb.d0,hb.s1,hb.s0] at hc6 hc17 hc18
    try simp only [hb.t1,hb.t0,hb.c1,hb.c0,hb.i1,hb.i0,hb.d1,hb.d0,hb.s1,hb.s0]
    simp only [valuesE,List.length_map] at *
    grind
   ·
    refine wr (um (ub (ub (um ?_))));apply gT
    ·rfl
    ·intro hg;exact pf th30 th27 hb2
    apply gT
    ·rfl
    ·intro hg;try simp only [hg,ct,Bt]
     exact pg th27 hb2
    apply gT
    ·rfl
    ·intro hg;try simp only [hg,ct,Bt]
     refine o_pcall (pv (v:=e.id) (s123 e.id ok.ri ok.si)) rfl ⟨rfl,rfl,rfl⟩
    apply gT
    ·rfl
    ·intro hg;try simp only [hg,ct,Bt]
     exact pb
    refine uA ?_;refine ua ?_;refine u_nil ?_;refine wc (fun hc21=>?_) (fun hc21=>?_) <;> try simp only [Q0,Q1,Q2,Q3,Q4,Q5,Q6,Q7,Q8,ge_iff_le,gt_iff_lt] at hc21
    ·
     refine wr (ua (u_nil (WP.ret ?_)));refine ret_ok rfl ?_ (by omega) (fun t ht=>(hk2 t (by omega)));clear hK3 hK4;refine congrArg D.bool ?_
     try simp only [hb.t1,hb.t0,hb.c1,hb.c0,hb.i1,hb.i0,hb.d1,hb.d0,hb.s1,hb.s0] at hc6 hc17 hc18 hc21
     try simp only [hb.t1,hb.t0,hb.c1,hb.c0,hb.i1,hb.i0,hb.d1,hb.d0,hb.s1,hb.s0]
     simp only [valuesE,List.length_map] at *
     grind
    ·
     refine wr (um (ub (ub (um ?_))));apply gT
     ·rfl
     ·intro hg;exact pf th30 th27 hb2
     apply gT
     ·rfl
     ·intro hg;try simp only [hg,ct,Bt]
      exact pg th27 hb2
     apply gT
     ·rfl
     ·intro hg;exact pf th30 th27 hb2
     apply gT
     ·rfl
     ·intro hg;try simp only [hg,ct,Bt]
      exact pg th27 hb2
     apply gT
     ·rfl
     ·intro hg;try simp only [hg,ct,Bt]
      refine o_pcall (pvE (v:=e.doc) (w:=e.id) (s148 e.doc e.id ok.rd ok.sd (by simp only [hb.d1] at hg;have hi:=d_imp_i hg;have hq:=hc21;simp only [hb.i1,hi,Bool.true_and,bne_eq_false_iff_eq] at hq;exact check_may hq))) rfl ⟨rfl,rfl,rfl⟩
     apply gT
     ·rfl
     ·intro hg;try simp only [hg,ct,Bt]
      exact pN
     refine uA ?_;refine ua ?_;refine u_nil ?_;refine wc (fun hc24=>?_) (fun hc24=>?_) <;> try simp only [Q0,Q1,Q2,Q3,Q4,Q5,Q6,Q7,Q8,ge_iff_le,gt_iff_lt] at hc24
     ·
      refine wr (ua (u_nil (WP.ret ?_)));refine ret_ok rfl ?_ (by omega) (fun t ht=>(hk2 t (by omega)));clear hK3 hK4;refine congrArg D.bool ?_
      try simp only [hb.t1,hb.t0,hb.c1,hb.c0,hb.i1,hb.i0,hb.d1,hb.d0,hb.s1,hb.s0] at hc6 hc17 hc18 hc21 hc24
      try simp only [hb.t1,hb.t0,hb.c1,hb.c0,hb.i1,hb.i0,hb.d1,hb.d0,hb.s1,hb.s0]
      simp only [valuesE,List.length_map] at *
      grind
     ·
      refine WP.skip (hK3 _ (wr (um (ub (ub (um ?_))))));apply gF
      ·rfl
      ·intro hg;exact pf th30 th28 hb2
      apply gF
      ·rfl
      ·intro hg;try simp only [hg,ct,Bt]
       exact pl th28 hb2
      apply gF
      ·rfl
      ·intro hg;try simp only [hg,ct,Bt]
       refine o_pcall (s149 e.deltas ok.ds) rfl ⟨rfl,rfl,rfl⟩
      refine uO (ua (u_nil (WP.ret ?_)));refine ret_ok rfl ?_ (by omega) (fun t ht=>(hk2 t (by omega)));clear hK3 hK4;refine congrArg D.bool ?_
      try simp only [hb.t1,hb.t0,hb.c1,hb.c0,hb.i1,hb.i0,hb.d1,hb.d0,hb.s1,hb.s0] at hc6 hc17 hc18 hc21 hc24
      try simp only [hb.t1,hb.t0,hb.c1,hb.c0,hb.i1,hb.i0,hb.d1,hb.d0,hb.s1,hb.s0]
      simp only [valuesE,List.length_map] at *
      grind
  ·
   refine WP.reg tabOk rfl ?_;refine um (ub (ub (um ?_)));apply gT
   ·rfl
   ·intro hg;exact pf th30 th28 hb2
   apply gT
   ·rfl
   ·intro hg;try simp only [hg,ct,Bt]
    exact pl th28 hb2
   apply gT
   ·rfl
   ·intro hg;try simp only [hg,ct,Bt]
    exact pn th28
   apply gT
   ·rfl
   ·intro hg;try simp only [hg,ct,Bt]
    exact pb
   refine uA ?_;refine ua ?_;refine u_nil ?_;refine hK4 _ ?_;refine wc (fun hc27=>?_) (fun hc27=>?_) <;> try simp only [Q0,Q1,Q2,Q3,Q4,Q5,Q6,Q7,Q8,ge_iff_le,gt_iff_lt] at hc27
   ·
    refine wr (ua (u_nil (WP.ret ?_)));refine ret_ok rfl ?_ (by omega) (fun t ht=>(hk2 t (by omega)));clear hK3 hK4;refine congrArg D.bool ?_
    try simp only [hb.t1,hb.t0,hb.c1,hb.c0,hb.i1,hb.i0,hb.d1,hb.d0,hb.s1,hb.s0] at hc6 hc17 hc27
    try simp only [hb.t1,hb.t0,hb.c1,hb.c0,hb.i1,hb.i0,hb.d1,hb.d0,hb.s1,hb.s0]
    simp only [valuesE,List.length_map] at *
    grind
   ·
    refine wr (um (ub (ub (um ?_))));apply gT
    ·rfl
    ·intro hg;exact pf th30 th27 hb2
    apply gT
    ·rfl
    ·intro hg;try simp only [hg,ct,Bt]
     exact pg th27 hb2
    apply gT
    ·rfl
    ·intro hg;try simp only [hg,ct,Bt]
     refine o_pcall (pv (v:=e.id) (s123 e.id ok.ri ok.si)) rfl ⟨rfl,rfl,rfl⟩
    apply gT
    ·rfl
    ·intro hg;try simp only [hg,ct,Bt]
     exact pb
    refine uA ?_;refine ua ?_;refine u_nil ?_;refine wc (fun hc30=>?_) (fun hc30=>?_) <;> try simp only [Q0,Q1,Q2,Q3,Q4,Q5,Q6,Q7,Q8,ge_iff_le,gt_iff_lt] at hc30
    ·
     refine wr (ua (u_nil (WP.ret ?_)));refine ret_ok rfl ?_ (by omega) (fun t ht=>(hk2 t (by omega)));clear hK3 hK4;refine congrArg D.bool ?_
     try simp only [hb.t1,hb.t0,hb.c1,hb.c0,hb.i1,hb.i0,hb.d1,hb.d0,hb.s1,hb.s0] at hc6 hc17 hc27 hc30
     try simp only [hb.t1,hb.t0,hb.c1,hb.c0,hb.i1,hb.i0,hb.d1,hb.d0,hb.s1,hb.s0]
     simp only [valuesE,List.length_map] at *
     grind
    ·
     refine wr (um (ub (ub (um ?_))));apply gT
     ·rfl
     ·intro hg;exact pf th30 th27 hb2
     apply gT
     ·rfl
     ·intro hg;try simp only [hg,ct,Bt]
      exact pg th27 hb2
     apply gT
     ·rfl
     ·intro hg;exact pf th30 th27 hb2
     apply gT
     ·rfl
     ·intro hg;try simp only [hg,ct,Bt]
      exact pg th27 hb2
     apply gT
     ·rfl
     ·intro hg;try simp only [hg,ct,Bt]
      refine o_pcall (pvE (v:=e.doc) (w:=e.id) (s148 e.doc e.id ok.rd ok.sd (by simp only [hb.d1] at hg;have hi:=d_imp_i hg;have hq:=hc30;simp only [hb.i1,hi,Bool.true_and,bne_eq_false_iff_eq] at hq;exact check_may hq))) rfl ⟨rfl,rfl,rfl⟩
     apply gT
     ·rfl
     ·intro hg;try simp only [hg,ct,Bt]
      exact pN
     refine uA ?_;refine ua ?_;refine u_nil ?_;refine wc (fun hc33=>?_) (fun hc33=>?_) <;> try simp only [Q0,Q1,Q2,Q3,Q4,Q5,Q6,Q7,Q8,ge_iff_le,gt_iff_lt] at hc33
     ·
      refine wr (ua (u_nil (WP.ret ?_)));refine ret_ok rfl ?_ (by omega) (fun t ht=>(hk2 t (by omega)));clear hK3 hK4;refine congrArg D.bool ?_
      try simp only [hb.t1,hb.t0,hb.c1,hb.c0,hb.i1,hb.i0,hb.d1,hb.d0,hb.s1,hb.s0] at hc6 hc17 hc27 hc30 hc33
      try simp only [hb.t1,hb.t0,hb.c1,hb.c0,hb.i1,hb.i0,hb.d1,hb.d0,hb.s1,hb.s0]
      simp only [valuesE,List.length_map] at *
      grind
     ·
      refine WP.skip (hK3 _ (wr (um (ub (ub (um ?_))))));apply gF
      ·rfl
      ·intro hg;exact pf th30 th28 hb2
      apply gF
      ·rfl
      ·intro hg;try simp only [hg,ct,Bt]
       exact pl th28 hb2
      apply gF
      ·rfl
      ·intro hg;try simp only [hg,ct,Bt]
       refine o_pcall (s149 e.deltas ok.ds) rfl ⟨rfl,rfl,rfl⟩
      refine uO (ua (u_nil (WP.ret ?_)));refine ret_ok rfl ?_ (by omega) (fun t ht=>(hk2 t (by omega)));clear hK3 hK4;refine congrArg D.bool ?_
      try simp only [hb.t1,hb.t0,hb.c1,hb.c0,hb.i1,hb.i0,hb.d1,hb.d0,hb.s1,hb.s0] at hc6 hc17 hc27 hc30 hc33
      try simp only [hb.t1,hb.t0,hb.c1,hb.c0,hb.i1,hb.i0,hb.d1,hb.d0,hb.s1,hb.s0]
      simp only [valuesE,List.length_map] at *
      grind
theorem may_split {e:Etr} {b:Bool} (h:fieldsV e.kind < 0→b=true):b=false→1≤e.kind∧e.kind≤7:=fun hb=>by
 have:=fields_ok e.kind;by_cases hf:fieldsV e.kind < 0
 ·rw [h hf] at hb;cases hb
 ·rw [decide_eq_false hf] at this;simpa using this.symm
theorem fn45:FnOk Tryz.prog 45 48 [2] (bodyOf Tryz.f45):=⟨Tryz.f45,Tryz.func45,by kernel_rfl,by decide,by kernel_rfl,by kernel_rfl⟩
theorem s45 (e:Etr) (ok:OkE e):PSpec Tryz.prog 45 [.d (encE e)] (.d (.bool (mayE e))):=by
 refine PSpec.of fn45 (by simp) fun o nk=>?_;refine wr ?_;refine u_step (g_box rfl fun o2 hb2 hk2=>?_);refine ua (u_nil (wr (uf th30 th3 hb2 ?_)));refine ul th3 hb2 ?_;refine u_step (o_pcall (s99 e.kind) rfl ?_);refine ua (u_nil (WP.seq fun K4 hK4=>?_));refine wr (um (ub (um ?_)));apply gF
 ·rfl
 ·intro hg;exact pf th30 th3 hb2
 apply gF
 ·rfl
 ·intro hg;try simp only [hg,ct,Bt]
  exact pl th3 hb2
 apply gF
 ·rfl
 ·intro hg;try simp only [hg,ct,Bt]
  refine o_pcall (s100 e.term _) rfl ⟨rfl,rfl,rfl⟩
 apply gF
 ·rfl
 ·intro hg;try simp only [hg,ct,Bt]
  exact pN
 refine uO (um ?_);apply gF
 ·rfl
 ·intro hg;exact pf th30 th3 hb2
 apply gF
 ·rfl
 ·intro hg;try simp only [hg,ct,Bt]
  exact pl th3 hb2
 apply gF
 ·rfl
 ·intro hg;try simp only [hg,ct,Bt]
  refine o_pcall (s100 e.session _) rfl ⟨rfl,rfl,rfl⟩
 apply gF
 ·rfl
 ·intro hg;try simp only [hg,ct,Bt]
  exact pN
 refine uO (um ?_);apply gF
 ·rfl
 ·intro hg;exact pf th30 th3 hb2
 apply gF
 ·rfl
 ·intro hg;try simp only [hg,ct,Bt]
  exact pl th3 hb2
 apply gF
 ·rfl
 ·intro hg;try simp only [hg,ct,Bt]
  refine o_pcall (s100 e.number _) rfl ⟨rfl,rfl,rfl⟩
 apply gF
 ·rfl
 ·intro hg;try simp only [hg,ct,Bt]
  exact pN
 refine uO ?_;refine u_nil ?_;refine wc (fun hc6=>?_) (fun hc6=>?_) <;> try simp only [Q0,Q1,Q2,Q3,Q4,Q5,Q6,Q7,Q8,ge_iff_le,gt_iff_lt] at hc6
 ·
  refine wr (ua (u_nil (WP.ret ?_)));refine ret_ok rfl ?_ (by omega) (fun t ht=>(hk2 t (by omega)));clear hK4;refine congrArg D.bool ?_;have hfk:=fields_ok e.kind;simp only [decide_eq_true_eq,decide_eq_false_iff_not,mayE] at *
  grind
 ·
  have hk:=may_split (e:=e) (b:=_) (fun hf=>by simp [hf]) hc6;refine WP.skip (hK4 _ (WP.seq fun K8 hK8=>?_));refine wr (uf th30 th3 hb2 ?_);refine ul th3 hb2 ?_;refine ub (um ?_);apply gT
  ·rfl
  ·intro hg;exact pf th30 th3 hb2
  apply gT
  ·rfl
  ·intro hg;try simp only [hg,ct,Bt]
   exact pl th3 hb2
  apply gT
  ·rfl
  ·intro hg;try simp only [hg,ct,Bt]
   exact pb
  apply gT
  ·rfl
  ·intro hg;try simp only [hg,ct,Bt]
   exact pm
  apply u_guard
  ·exact GC.cf _ _
  ·intro hg;exact pf th30 th3 hb2
  apply u_guard
  ·exact GC.cf _ _
  ·intro hg;try simp only [hg,ct,Bt]
   exact pl th3 hb2
  apply u_guard
  ·exact GC.cf _ _
  ·intro hg;try simp only [hg,ct,Bt]
   exact pb
  apply gT
  ·rfl
  ·intro hg;try simp only [hg,ct,Bt]
   exact pO
  refine uA ?_;refine u_nil ?_;refine wc (fun hc10=>?_) (fun hc10=>?_) <;> try simp only [Q0,Q1,Q2,Q3,Q4,Q5,Q6,Q7,Q8,ge_iff_le,gt_iff_lt] at hc10
  ·
   refine wr (ua (u_nil (WP.ret ?_)));refine ret_ok rfl ?_ (by omega) (fun t ht=>(hk2 t (by omega)));clear hK4 hK8;refine congrArg D.bool ?_;have hfk:=fields_ok e.kind;simp only [decide_eq_true_eq,decide_eq_false_iff_not,mayE] at *
   grind
  ·
   refine WP.skip (hK8 _ (wr (ug th30 hb2 ?_)));refine um ?_;refine u_step (o_pcall (s101 e hk) rfl ?_);refine um ?_;apply gT
   ·rfl
   ·intro hg;exact pg th30 hb2
   apply gT
   ·rfl
   ·intro hg;exact pm
   apply gT
   ·rfl
   ·intro hg;try simp only [hg,ct,Bt]
    refine o_pcall (s102 e hk ok) rfl ⟨rfl,rfl,rfl⟩
   refine uA (ua (u_nil (WP.ret ?_)));refine ret_ok rfl ?_ (by omega) (fun t ht=>(hk2 t (by omega)));clear hK4 hK8;refine congrArg D.bool ?_;have hfk:=fields_ok e.kind;simp only [decide_eq_true_eq,decide_eq_false_iff_not,mayE] at *
   grind
theorem fn24:FnOk Tryz.prog 24 160 [2] (bodyOf Tryz.f24):=⟨Tryz.f24,Tryz.func24,by kernel_rfl,by decide,by kernel_rfl,by kernel_rfl⟩
theorem s24 (e:Etr) (ok:OkE e):PSpec Tryz.prog 24 [.d (encE e)] (.d (.bool (mayE e))):=by
 refine PSpec.of fn24 (by simp) fun o nk=>?_;refine wr ?_;refine u_step (g_box rfl fun o2 hb2 hk2=>?_);refine ua (u_nil (WP.seq fun K3 hK3=>?_));refine wr (uf th30 th3 hb2 ?_);refine ul th3 hb2 ?_;refine ub (um ?_);apply gF
 ·rfl
 ·intro hg;exact pf th30 th3 hb2
 apply gF
 ·rfl
 ·intro hg;try simp only [hg,ct,Bt]
  exact pl th3 hb2
 apply gF
 ·rfl
 ·intro hg;try simp only [hg,ct,Bt]
  exact pb
 refine uO (um ?_);apply gF
 ·rfl
 ·intro hg;exact pf th30 th3 hb2
 apply gF
 ·rfl
 ·intro hg;try simp only [hg,ct,Bt]
  exact pl th3 hb2
 apply gF
 ·rfl
 ·intro hg;try simp only [hg,ct,Bt]
  exact pb
 refine uO (um ?_);apply gF
 ·rfl
 ·intro hg;exact pf th30 th3 hb2
 apply gF
 ·rfl
 ·intro hg;try simp only [hg,ct,Bt]
  exact pl th3 hb2
 apply gF
 ·rfl
 ·intro hg;try simp only [hg,ct,Bt]
  exact pb
 refine uO (um ?_);apply gF
 ·rfl
 ·intro hg;exact pf th30 th3 hb2
 apply gF
 ·rfl
 ·intro hg;try simp only [hg,ct,Bt]
  exact pl th3 hb2
 apply gF
 ·rfl
 ·intro hg;try simp only [hg,ct,Bt]
  exact pb
 refine uO (um ?_);apply gF
 ·rfl
 ·intro hg;exact pf th30 th3 hb2
 apply gF
 ·rfl
 ·intro hg;try simp only [hg,ct,Bt]
  exact pl th3 hb2
 apply gF
 ·rfl
 ·intro hg;try simp only [hg,ct,Bt]
  exact pb
 refine uO (um ?_);apply gF
 ·rfl
 ·intro hg;exact pf th30 th3 hb2
 apply gF
 ·rfl
 ·intro hg;try simp only [hg,ct,Bt]
  exact pl th3 hb2
 apply gF
 ·rfl
 ·intro hg;try simp only [hg,ct,Bt]
  exact pb
 refine uO (um ?_);apply gF
 ·rfl
 ·intro hg;exact pf th30 th3 hb2
 apply gF
 ·rfl
 ·intro hg;try simp only [hg,ct,Bt]
  exact pl th3 hb2
 apply gF
 ·rfl
 ·intro hg;try simp only [hg,ct,Bt]
  exact pb
 refine uO ?_;refine u_nil ?_;refine wc (fun hc5=>?_) (fun hc5=>?_) <;> try simp only [Q0,Q1,Q2,Q3,Q4,Q5,Q6,Q7,Q8,ge_iff_le,gt_iff_lt] at hc5
 ·
  refine wr (ua (u_nil (WP.ret ?_)));refine ret_ok rfl ?_ (by omega) (fun t ht=>(hk2 t (by omega)));clear hK3;refine congrArg D.bool ?_;have hcn:=coll_nil;have hdi:=@d_imp_i e.kind;have hl0:e.deltas.length=0↔e.deltas=[]:=List.length_eq_zero_iff;simp only [mayE,namesE,valuesE,List.length_map] at *
  grind
 ·
  refine WP.skip (hK3 _ (wr (uf th30 th3 hb2 ?_)));refine ul th3 hb2 ?_;refine u_step (o_pcall (s64b e.kind) rfl ?_);refine u_step (o_moveV (v:=.tup _) rfl ?_);refine ue (ue (ue ?_));refine ue (ue (ua (ua (ua (ua (ua (u_nil (WP.seq fun K8 hK8=>?_))))))));refine wr (um (uf th30 th9 hb2 ?_));refine ul th9 hb2 ?_;refine u_step (o_bin_str rfl (show _=SV.d (.str []) from rfl) rfl ?_);refine u_step (o_bin_neb rfl rfl th4 rfl ?_);refine um ?_;apply gF
  ·rfl
  ·intro hg;exact pm
  apply gF
  ·rfl
  ·intro hg;try simp only [hg,ct,Bt]
   exact pm
  apply u_guard
  ·exact GC.ct _ _
  ·intro hg;exact pf th30 th9 hb2
  apply u_guard
  ·exact GC.ct _ _
  ·intro hg;try simp only [hg,ct,Bt]
   exact pl th9 hb2
  apply u_guard
  ·exact GC.ct _ _
  ·intro hg;try simp only [hg,ct,Bt]
   refine o_pcall (s49 e.coll) rfl ⟨rfl,rfl,rfl⟩
  apply u_guard
  ·exact GC.ct _ _
  ·intro hg;try simp only [hg,ct,Bt]
   exact pN
  apply gF
  ·rfl
  ·intro hg;try simp only [hg,ct,Bt]
   exact pA
  refine uO (um ?_);apply gF
  ·rfl
  ·intro hg;exact pm
  apply gF
  ·rfl
  ·intro hg;exact pf th30 th9 hb2
  apply gF
  ·rfl
  ·intro hg;try simp only [hg,ct,Bt]
   exact pl th9 hb2
  apply gF
  ·rfl
  ·intro hg;try simp only [hg,ct,Bt]
   refine o_bin_str rfl (show _=SV.d (.str []) from rfl) rfl ⟨rfl,rfl,rfl⟩
  apply gF
  ·rfl
  ·intro hg;try simp only [hg,ct,Bt]
   refine o_bin_neb rfl rfl th4 rfl ⟨rfl,rfl,rfl⟩
  refine uO (um ?_);apply gF
  ·rfl
  ·intro hg;exact pm
  apply gF
  ·rfl
  ·intro hg;try simp only [hg,ct,Bt]
   exact pm
  apply u_guard
  ·exact GC.ct _ _
  ·intro hg;exact pf th30 th9 hb2
  apply u_guard
  ·exact GC.ct _ _
  ·intro hg;try simp only [hg,ct,Bt]
   exact pl th9 hb2
  apply u_guard
  ·exact GC.ct _ _
  ·intro hg;try simp only [hg,ct,Bt]
   refine o_pcall (s49 e.to) rfl ⟨rfl,rfl,rfl⟩
  apply u_guard
  ·exact GC.ct _ _
  ·intro hg;try simp only [hg,ct,Bt]
   exact pN
  apply u_guard
  ·exact GC.ct _ _
  ·intro hg;try simp only [hg,ct,Bt]
   exact pm
  apply u_guard
  ·exact GC.cf _ _
  ·intro hg;exact pf th30 th9 hb2
  apply u_guard
  ·exact GC.cf _ _
  ·intro hg;try simp only [hg,ct,Bt]
   exact pl th9 hb2
  apply u_guard
  ·exact GC.cf _ _
  ·intro hg;exact pf th30 th9 hb2
  apply u_guard
  ·exact GC.cf _ _
  ·intro hg;try simp only [hg,ct,Bt]
   exact pl th9 hb2
  apply u_guard
  ·exact GC.cf _ _
  ·intro hg;try simp only [hg,ct,Bt]
   exact ps
  apply u_guard
  ·exact GC.ct _ _
  ·intro hg;try simp only [hg,ct,Bt]
   exact pO
  apply gF
  ·rfl
  ·intro hg;try simp only [hg,ct,Bt]
   exact pA
  refine uO ?_;refine u_nil ?_;refine wc (fun hc10=>?_) (fun hc10=>?_) <;> try simp only [Q0,Q1,Q2,Q3,Q4,Q5,Q6,Q7,Q8,ge_iff_le,gt_iff_lt] at hc10
  ·
   refine wr (ua (u_nil (WP.ret ?_)));refine ret_ok rfl ?_ (by omega) (fun t ht=>(hk2 t (by omega)));clear hK3 hK8;refine congrArg D.bool ?_;have hcn:=coll_nil;have hdi:=@d_imp_i e.kind;have hl0:e.deltas.length=0↔e.deltas=[]:=List.length_eq_zero_iff;simp only [mayE,namesE,valuesE,List.length_map] at *
   grind
  ·
   refine WP.skip (hK8 _ (WP.seq fun K12 hK12=>?_));refine wr (um (uN (um ?_)));apply gT
   ·rfl
   ·intro hg;exact pf th30 th27 hb2
   apply gT
   ·rfl
   ·intro hg;try simp only [hg,ct,Bt]
    exact pg th27 hb2
   apply gT
   ·rfl
   ·intro hg;try simp only [hg,ct,Bt]
    refine o_pcall (pv (v:=e.id) (s65 e.id)) rfl ⟨rfl,rfl,rfl⟩
   apply gT
   ·rfl
   ·intro hg;try simp only [hg,ct,Bt]
    exact pN
   refine uA (um ?_);apply gF
   ·rfl
   ·intro hg;exact pm
   apply gF
   ·rfl
   ·intro hg;try simp only [hg,ct,Bt]
    exact pm
   apply u_guard
   ·exact GC.ct _ _
   ·intro hg;exact pf th30 th27 hb2
   apply u_guard
   ·exact GC.ct _ _
   ·intro hg;try simp only [hg,ct,Bt]
    exact pg th27 hb2
   apply u_guard
   ·exact GC.ct _ _
   ·intro hg;try simp only [hg,ct,Bt]
    refine o_pcall (pv (v:=e.id) (s66 e.id ok.ri ok.si)) rfl ⟨rfl,rfl,rfl⟩
   apply u_guard
   ·exact GC.ct _ _
   ·intro hg;try simp only [hg,ct,Bt]
    exact pb
   apply gF
   ·rfl
   ·intro hg;try simp only [hg,ct,Bt]
    exact pA
   refine uO ?_;refine u_nil ?_;refine wc (fun hc14=>?_) (fun hc14=>?_) <;> try simp only [Q0,Q1,Q2,Q3,Q4,Q5,Q6,Q7,Q8,ge_iff_le,gt_iff_lt] at hc14
   ·
    refine wr (ua (u_nil (WP.ret ?_)));refine ret_ok rfl ?_ (by omega) (fun t ht=>(hk2 t (by omega)));clear hK3 hK8 hK12;refine congrArg D.bool ?_;have hcn:=coll_nil;have hdi:=@d_imp_i e.kind;have hl0:e.deltas.length=0↔e.deltas=[]:=List.length_eq_zero_iff;simp only [mayE,namesE,valuesE,List.length_map] at *
    grind
   ·
    refine WP.skip (hK12 _ (WP.seq fun K16 hK16=>?_));refine wr (um (uN (um ?_)));apply gT
    ·rfl
    ·intro hg;exact pf th30 th27 hb2
    apply gT
    ·rfl
    ·intro hg;try simp only [hg,ct,Bt]
     exact pg th27 hb2
    apply gT
    ·rfl
    ·intro hg;try simp only [hg,ct,Bt]
     refine o_pcall (pv (v:=e.doc) (s65 e.doc)) rfl ⟨rfl,rfl,rfl⟩
    apply gT
    ·rfl
    ·intro hg;try simp only [hg,ct,Bt]
     exact pN
    refine uA (um ?_);apply gF
    ·rfl
    ·intro hg;exact pm
    apply gF
    ·rfl
    ·intro hg;try simp only [hg,ct,Bt]
     exact pm
    apply u_guard
    ·exact GC.ct _ _
    ·intro hg;exact pf th30 th27 hb2
    apply u_guard
    ·exact GC.ct _ _
    ·intro hg;try simp only [hg,ct,Bt]
     exact pg th27 hb2
    apply u_guard
    ·exact GC.ct _ _
    ·intro hg;exact pf th30 th27 hb2
    apply u_guard
    ·exact GC.ct _ _
    ·intro hg;try simp only [hg,ct,Bt]
     exact pg th27 hb2
    apply u_guard
    ·exact GC.ct _ _
    ·intro hg;try simp only [hg,ct,Bt]
     refine o_pcall (pvE (v:=e.doc) (w:=e.id) (s67 e.doc e.id ok.rd ok.sd)) rfl ⟨rfl,rfl,rfl⟩
    apply u_guard
    ·exact GC.ct _ _
    ·intro hg;try simp only [hg,ct,Bt]
     exact pN
    apply gF
    ·rfl
    ·intro hg;try simp only [hg,ct,Bt]
     exact pA
    refine uO (um ?_);apply gF
    ·rfl
    ·intro hg;exact pm
    apply gF
    ·rfl
    ·intro hg;try simp only [hg,ct,Bt]
     exact pN
    apply gF
    ·rfl
    ·intro hg;try simp only [hg,ct,Bt]
     exact pm
    apply u_guard
    ·exact GC.ct _ _
    ·intro hg;exact pf th30 th28 hb2
    apply u_guard
    ·exact GC.ct _ _
    ·intro hg;try simp only [hg,ct,Bt]
     exact pl th28 hb2
    apply u_guard
    ·exact GC.ct _ _
    ·intro hg;try simp only [hg,ct,Bt]
     exact pn th28
    apply u_guard
    ·exact GC.ct _ _
    ·intro hg;try simp only [hg,ct,Bt]
     exact pb
    apply gF
    ·rfl
    ·intro hg;try simp only [hg,ct,Bt]
     exact pA
    refine uO (um ?_);apply gF
    ·rfl
    ·intro hg;exact pm
    apply gF
    ·rfl
    ·intro hg;try simp only [hg,ct,Bt]
     exact pm
    apply u_guard
    ·exact GC.ct _ _
    ·intro hg;exact pf th30 th28 hb2
    apply u_guard
    ·exact GC.ct _ _
    ·intro hg;try simp only [hg,ct,Bt]
     exact pl th28 hb2
    apply u_guard
    ·exact GC.ct _ _
    ·intro hg;try simp only [hg,ct,Bt]
     refine o_pcall (s68 e.deltas ok.ds) rfl ⟨rfl,rfl,rfl⟩
    apply u_guard
    ·exact GC.ct _ _
    ·intro hg;try simp only [hg,ct,Bt]
     exact pN
    apply gF
    ·rfl
    ·intro hg;try simp only [hg,ct,Bt]
     exact pA
    refine uO ?_;refine u_nil ?_;refine wc (fun hc18=>?_) (fun hc18=>?_) <;> try simp only [Q0,Q1,Q2,Q3,Q4,Q5,Q6,Q7,Q8,ge_iff_le,gt_iff_lt] at hc18
    ·
     refine wr (ua (u_nil (WP.ret ?_)));refine ret_ok rfl ?_ (by omega) (fun t ht=>(hk2 t (by omega)));clear hK3 hK8 hK12 hK16;refine congrArg D.bool ?_;have hcn:=coll_nil;have hdi:=@d_imp_i e.kind;have hl0:e.deltas.length=0↔e.deltas=[]:=List.length_eq_zero_iff;simp only [mayE,namesE,valuesE,List.length_map] at *
     grind
    ·
     refine WP.skip (hK16 _ (wr (uf th30 th3 hb2 ?_)));refine ul th3 hb2 ?_;refine ub (um ?_);apply gF
     ·rfl
     ·intro hg;exact pf th30 th3 hb2
     apply gF
     ·rfl
     ·intro hg;try simp only [hg,ct,Bt]
      exact pl th3 hb2
     apply gF
     ·rfl
     ·intro hg;try simp only [hg,ct,Bt]
      exact pb
     apply gF
     ·rfl
     ·intro hg;try simp only [hg,ct,Bt]
      exact pm
     apply u_guard
     ·exact GC.ct _ _
     ·intro hg;exact pf th30 th3 hb2
     apply u_guard
     ·exact GC.ct _ _
     ·intro hg;try simp only [hg,ct,Bt]
      exact pl th3 hb2
     apply u_guard
     ·exact GC.ct _ _
     ·intro hg;try simp only [hg,ct,Bt]
      exact pb
     apply gF
     ·rfl
     ·intro hg;try simp only [hg,ct,Bt]
      exact pA
     refine uO (ua (u_nil (WP.ret ?_)));refine ret_ok rfl ?_ (by omega) (fun t ht=>(hk2 t (by omega)));clear hK3 hK8 hK12 hK16;refine congrArg D.bool ?_;have hcn:=coll_nil;have hdi:=@d_imp_i e.kind;have hl0:e.deltas.length=0↔e.deltas=[]:=List.length_eq_zero_iff;simp only [mayE,namesE,valuesE,List.length_map] at *
     grind
theorem pvv {P:Program} {f:FuncId} {v w:Val} {r:SV} (h:PSpec P f [.d (encV v),.d (encV w)] r):PSpec P f [.d (.agg (valCells v)),.d (.agg (valCells w))] r:=by rw [← encV_eq,← encV_eq];exact h
theorem dlt_same {x y:Dlt}:(x.kind != y.kind || x.n != y.n || !decide (x.path=y.path) || !sameV x.value y.value)=true↔¬ x=y:=by
 cases x;cases y;simp only [Dlt.mk.injEq,Bool.or_eq_true,bne_iff_ne,Bool.not_eq_true',decide_eq_false_iff_not,← Bool.not_eq_true,same_eq,ne_eq]
 grind
open Classical in
noncomputable def sameDs (a b:List Dlt):Bool:=decide (a=b)
open Classical in
theorem sameDs_ne {a b:List Dlt} (h:¬ a=b):sameDs a b=false:=by simp [sameDs,h]
theorem sameDs_iff {a b:List Dlt}:sameDs a b=true↔a=b:=by simp [sameDs]
@[simp] theorem vc_len (v:Val):(valCells v).length=5:=by cases v;rfl
theorem fn37:FnOk Tryz.prog 37 69 [4] (bodyOf Tryz.f37):=⟨Tryz.f37,Tryz.func37,by kernel_rfl,by decide,by kernel_rfl,by kernel_rfl⟩
theorem s37 (a b:List Dlt):PSpec Tryz.prog 37 [.d (.sl 8 (a.map encD)),.d (.sl 8 (b.map encD))] (.d (.bool (sameDs a b))):=by
 refine PSpec.bd fun hbd=>?_;have hx:a.length≤9223372036854775807:=by simpa using hbd.1.1
 refine PSpec.of fn37 (by simp) fun o nk=>?_;refine wr ?_;refine ua ?_;refine u_nil ?_;refine WP.seq fun K2 hK2=>?_;refine wr ?_;refine um ?_;refine un th28 ?_;refine um ?_;refine un th28 ?_;refine ub ?_;refine u_nil ?_;refine wc (fun hc4=>?_) (fun hc4=>?_) <;> try simp only [Q0,Q1,Q2,Q3,Q4,Q5,Q6,Q7,Q8,ge_iff_le,gt_iff_lt] at hc4
 ·
  refine wr (ua (u_nil (WP.ret ?_)));refine ret_ok rfl ?_ (by omega) (fun _ _=>rfl);refine congrArg D.bool (sameDs_ne ?_).symm;rintro rfl;have hl:=hc4;simp at hl
 ·
  have hab:a.length=b.length:=by have:=hc4;(try simp at this);omega
  refine WP.skip (hK2 _ (WP.seq fun K6 hK6=>?_));refine wr (ua (u_nil (WP.block ?_)));refine WP.loopL (ι:=Nat) (fun i=>⟨al [(0,.d (.sl 8 (a.map encD))),(1,.d (.sl 8 (b.map encD))),(5,.d (.int .i64 i))],o,nk⟩) (fun i=>i≤a.length∧∀ (j:Nat) (hj:j < a.length) (hk:j < b.length),j < i→a[j]=b[j]) (fun i=>a.length - i) (fun i hA=>?_) 0 ?_ ?_
  ·
   obtain ⟨hle_i,hin_i⟩:=hA;refine WP.seq fun K8 hK8=>?_;refine wr ?_;refine um ?_;refine um ?_;refine un th28 ?_;refine ub ?_;refine u_nil ?_;refine wc (fun hc10=>?_) (fun hc10=>?_) <;> try simp only [Q0,Q1,Q2,Q3,Q4,Q5,Q6,Q7,Q8,ge_iff_le,gt_iff_lt] at hc10
   ·
    have hil:i < a.length:=by have:=hc10;(try simp at this);omega
    have hil2:i < b.length:=by omega
    refine WP.skip (hK8 _ (WP.seq fun K11 hK11=>?_));refine WP.block (wd ?_);refine dm ?_;refine dm ?_
    refine d_step (o_ia_map rfl rfl th28 rfl th83 rfl (by omega) ⟨rfl,rfl,rfl⟩) ?_
    refine dF th83 th3 ?_;refine dL th3 ?_;refine dm ?_;refine dm ?_
    refine d_step (o_ia_map rfl rfl th28 rfl th83 rfl (by omega) ⟨rfl,rfl,rfl⟩) ?_
    refine dF th83 th3 ?_;refine dL th3 ?_;refine db ?_;refine dm ?_;apply d_guard
    ·exact GC.f _
    ·intro hg;exact pm
    apply d_guard
    ·exact GC.f _
    ·intro hg;exact pm
    apply d_guard
    ·exact GC.f _
    ·intro hg;try simp only [hg,ct,Bt]
     have hg2:=hg;try simp only [Q0,Q1,Q2,Q3,Q4,Q5,Q6,Q9,Qa,Qb,Qc,Qd] at hg2
     refine o_ia_map rfl rfl th28 rfl th83 rfl (by omega) ⟨rfl,rfl,rfl⟩
    apply d_guard
    ·exact GC.f _
    ·intro hg;try simp only [hg,ct,Bt]
     exact pF th83 th3
    apply d_guard
    ·exact GC.f _
    ·intro hg;try simp only [hg,ct,Bt]
     exact pL th3
    apply d_guard
    ·exact GC.f _
    ·intro hg;exact pm
    apply d_guard
    ·exact GC.f _
    ·intro hg;exact pm
    apply d_guard
    ·exact GC.f _
    ·intro hg;try simp only [hg,ct,Bt]
     have hg2:=hg;try simp only [Q0,Q1,Q2,Q3,Q4,Q5,Q6,Q9,Qa,Qb,Qc,Qd] at hg2
     refine o_ia_map rfl rfl th28 rfl th83 rfl (by omega) ⟨rfl,rfl,rfl⟩
    apply d_guard
    ·exact GC.f _
    ·intro hg;try simp only [hg,ct,Bt]
     exact pF th83 th3
    apply d_guard
    ·exact GC.f _
    ·intro hg;try simp only [hg,ct,Bt]
     exact pL th3
    apply d_guard
    ·exact GC.f _
    ·intro hg;try simp only [hg,ct,Bt]
     exact pb
    refine dO ?_;refine dm ?_;apply d_guard
    ·exact GC.f _
    ·intro hg;exact pm
    apply d_guard
    ·exact GC.f _
    ·intro hg;exact pm
    apply d_guard
    ·exact GC.f _
    ·intro hg;try simp only [hg,ct,Bt]
     have hg2:=hg;try simp only [Q0,Q1,Q2,Q3,Q4,Q5,Q6,Q9,Qa,Qb,Qc,Qd] at hg2
     refine o_ia_map rfl rfl th28 rfl th83 rfl (by omega) ⟨rfl,rfl,rfl⟩
    apply d_guard
    ·exact GC.f _
    ·intro hg;try simp only [hg,ct,Bt]
     exact pF th83 th22
    apply d_guard
    ·exact GC.f _
    ·intro hg;try simp only [hg,ct,Bt]
     exact pL th22
    apply d_guard
    ·exact GC.f _
    ·intro hg;exact pm
    apply d_guard
    ·exact GC.f _
    ·intro hg;exact pm
    apply d_guard
    ·exact GC.f _
    ·intro hg;try simp only [hg,ct,Bt]
     have hg2:=hg;try simp only [Q0,Q1,Q2,Q3,Q4,Q5,Q6,Q9,Qa,Qb,Qc,Qd] at hg2
     refine o_ia_map rfl rfl th28 rfl th83 rfl (by omega) ⟨rfl,rfl,rfl⟩
    apply d_guard
    ·exact GC.f _
    ·intro hg;try simp only [hg,ct,Bt]
     exact pF th83 th22
    apply d_guard
    ·exact GC.f _
    ·intro hg;try simp only [hg,ct,Bt]
     exact pL th22
    apply d_guard
    ·exact GC.f _
    ·intro hg;try simp only [hg,ct,Bt]
     refine o_pcall (s91 (a[i].path) (b[i].path)) rfl ⟨rfl,rfl,rfl⟩
    apply d_guard
    ·exact GC.f _
    ·intro hg;try simp only [hg,ct,Bt]
     exact pN
    refine dO ?_;refine dm ?_;apply d_guard
    ·exact GC.f _
    ·intro hg;exact pm
    apply d_guard
    ·exact GC.f _
    ·intro hg;exact pm
    apply d_guard
    ·exact GC.f _
    ·intro hg;try simp only [hg,ct,Bt]
     have hg2:=hg;try simp only [Q0,Q1,Q2,Q3,Q4,Q5,Q6,Q9,Qa,Qb,Qc,Qd] at hg2
     refine o_ia_map rfl rfl th28 rfl th83 rfl (by omega) ⟨rfl,rfl,rfl⟩
    apply d_guard
    ·exact GC.f _
    ·intro hg;try simp only [hg,ct,Bt]
     exact pF th83 th27
    apply d_guard
    ·exact GC.f _
    ·intro hg;try simp only [hg,ct,Bt]
     exact pL th27
    apply d_guard
    ·exact GC.f _
    ·intro hg;exact pm
    apply d_guard
    ·exact GC.f _
    ·intro hg;exact pm
    apply d_guard
    ·exact GC.f _
    ·intro hg;try simp only [hg,ct,Bt]
     have hg2:=hg;try simp only [Q0,Q1,Q2,Q3,Q4,Q5,Q6,Q9,Qa,Qb,Qc,Qd] at hg2
     refine o_ia_map rfl rfl th28 rfl th83 rfl (by omega) ⟨rfl,rfl,rfl⟩
    apply d_guard
    ·exact GC.f _
    ·intro hg;try simp only [hg,ct,Bt]
     exact pF th83 th27
    apply d_guard
    ·exact GC.f _
    ·intro hg;try simp only [hg,ct,Bt]
     exact pL th27
    apply d_guard
    ·exact GC.f _
    ·intro hg;try simp only [hg,ct,Bt]
     refine o_pcall (pvv (s30 a[i].value b[i].value)) rfl ⟨rfl,rfl,rfl⟩
    apply d_guard
    ·exact GC.f _
    ·intro hg;try simp only [hg,ct,Bt]
     exact pN
    refine dO ?_;refine d_nil ?_;refine wc (fun hc13=>?_) (fun hc13=>?_) <;> try simp only [Q0,Q1,Q2,Q3,Q4,Q5,Q6,Q7,Q8,ge_iff_le,gt_iff_lt] at hc13
    ·
     refine wr (ua (u_nil (WP.ret ?_)));refine ret_ok rfl ?_ (by omega) (fun _ _=>rfl);refine congrArg D.bool (sameDs_ne ?_).symm;rintro rfl;have hl:=hc13;exact absurd rfl (dlt_same.1 hl)
    ·
     refine WP.skip (hK11 _ (WP.reg tabOk rfl ?_));refine um (ub (ua (u_nil ?_)));refine ⟨i+1,⟨by omega,?_⟩,by omega,?_⟩
     ·intro j hj hk h1;by_cases h2:j=i
      ·subst h2;have hl:=hc13;exact Classical.byContradiction fun hne=>by rw [dlt_same.2 hne] at hl;cases hl
      ·exact hin_i j hj hk (by omega)
     ·refine Le.al ?_;simp only [List.forall_mem_cons];exact ⟨rfl,rfl,cnt (by omega),by simp⟩
   ·
    refine WP.exit ?_;refine hK6 _ (wr (ua (u_nil (WP.ret ?_))));refine ret_ok rfl ?_ (by omega) (fun _ _=>rfl);refine congrArg D.bool ?_;exact (sameDs_iff.2 (List.ext_getElem hab fun j h1 h2=>hin_i j h1 h2 (by omega))).symm
  ·
   simp
  ·
   refine Le.al ?_;simp only [List.forall_mem_cons];exact ⟨rfl,rfl,rfl,by simp⟩
end Go.Proofs.YtpkcbdhjnnnkbaaGreat.Abs

namespace Go.Proofs.YtpkcbdhjnnnkbaaGreat.Abs
open Go
section
variable (Θ:Tab) (nofr:Nat→Bool) (call:Nat→List SV→TM AO→Nat→Option XR)
def preD (l:List Oper) (s:XS):List Nat:=l.flatMap fun op=>preF nofr op.op s
def postD (l:List Oper) (s:XS):List Nat:=l.flatMap fun op=>postF op.op s
def xDrawF (ops:Array Oper) (s:XS):Option XS:=
 match s.frzs (preD nofr ops.toList s) with
 | s1=>match xDraw Θ call ops s1 with
  | some s'=>some s'
  | none=>match xDraw Θ call ops ((s1.frzs (postD ops.toList s1)).soft) with
   | some s'=>some s'
   | none=>match xDrawP Θ call ops s1 with
    | some s'=>some s'
    | none=>xDrawP Θ call ops ((s1.frzs (postD ops.toList s1)).soft)
end
def xRes (Θ:Tab):List ResultVar→XS→Option (List SV×XS)
 | [],s=>some ([],s)
 | .tmp t :: r,s=>match xRes Θ r s with
  | none=>none
  | some (vs,s')=>match s'.sl.get t with
   | none=>some (.any :: vs,s')
   | some v=>some (v :: vs,s')
 | .cell a t :: r,s=>match xRes Θ r s with
  | none=>none
  | some (vs,s')=>match s'.sl.get a with
   | some (.loc k f)=>match xld Θ s'.o.get t (.loc k f) with
    | some v=>some (v :: vs,s')
    | none=>none
   | _=>none
def cellsR (s:XS):List ResultVar→List Nat
 | []=>[]
 | .tmp _ :: r=>cellsR s r
 | .cell a _ :: r=>(match s.sl.get a with
  | some c=>rowsO s.o c
  | none=>[])++cellsR s r
theorem xRes_ok {Θ:Tab}:∀ {rs:List ResultVar} {s s':XS} {vs:List SV},xRes Θ rs s=some (vs,s')→s'=s∧ResL Θ s.st rs vs
 | [],s,s',vs,h=>by
  simp only [xRes,Option.some.injEq,Prod.mk.injEq] at h;obtain ⟨rfl,rfl⟩:=h;exact ⟨rfl,trivial⟩
 | .tmp t :: r,s,s',vs,h=>by
  simp only [xRes] at h;split at h
  ·cases h
  ·rename_i vs1 s1 h1;obtain ⟨rfl,h2⟩:=xRes_ok h1;split at h
   ·rename_i hg;simp only [Option.some.injEq,Prod.mk.injEq] at h;obtain ⟨rfl,rfl⟩:=h;exact ⟨rfl,(by show SV.any=(s1.sl.get t).getD .any;rw [hg];rfl),h2⟩
   ·rename_i v hg;simp only [Option.some.injEq,Prod.mk.injEq] at h;obtain ⟨rfl,rfl⟩:=h;exact ⟨rfl,(by show v=(s1.sl.get t).getD .any;rw [hg];rfl),h2⟩
 | .cell a t :: r,s,s',vs,h=>by
  simp only [xRes] at h;split at h
  ·cases h
  ·rename_i vs1 s1 h1;obtain ⟨rfl,h2⟩:=xRes_ok h1;split at h
   ·rename_i k f hg;split at h
    ·rename_i v hv;simp only [Option.some.injEq,Prod.mk.injEq] at h;obtain ⟨rfl,rfl⟩:=h;have hsl:s1.st.sl a=.loc k f:=by show (s1.sl.get a).getD .any=_;rw [hg];rfl
     refine ⟨rfl,⟨⟨k,f,hsl⟩,?_⟩,h2⟩;rw [hsl];exact xld_ok Θ hv rfl
    ·cases h
   ·cases h
def itB:Obj→Obj→Bool
 | .stringIter a i,.stringIter b j=>decide (a.data.toList=b.data.toList) && decide (i=j)
 | _,_=>false
theorem itB_ok {x y:Obj} (h:itB x y=true):x=y:=by
 unfold itB at h;split at h
 ·rename_i a i b j;simp only [Bool.and_eq_true,decide_eq_true_eq] at h;obtain ⟨h1,rfl⟩:=h;obtain ⟨⟨a⟩⟩:=a;obtain ⟨⟨b⟩⟩:=b;simp at h1;rw [h1]
 ·cases h
def kvB:List (D×D)→List (D×D)→Bool
 | [],[]=>true
 | (a,b) :: r,(c,d) :: q=>D.eqb a c && (D.eqb b d && kvB r q)
 | _,_=>false
theorem kvB_ok:∀ {x y:List (D×D)},kvB x y=true→x=y
 | [],[],_=>rfl
 | [],_ :: _,h=>by simp [kvB] at h
 | _ :: _,[],h=>by simp [kvB] at h
 | (a,b) :: r,(c,d) :: q,h=>by
  simp only [kvB,Bool.and_eq_true] at h;rw [D.eqb_ok _ _ h.1,D.eqb_ok _ _ h.2.1,kvB_ok h.2.2]
def AO.eqb:AO→AO→Bool
 | .box a,.box b=>SV.eqbs a b
 | .row e z xs,.row e2 z2 ys=>decide (e=e2) && (decide (z=z2) && D.eqbs xs ys)
 | .raw (.ob a),.raw (.ob b)=>itB a b
 | .raw (.map a),.raw (.map b)=>kvB a b
 | _,_=>false
theorem AO.eqb_ok {x y:AO} (h:AO.eqb x y=true):x=y:=by
 unfold AO.eqb at h;split at h
 ·rw [SV.eqbs_ok h]
 ·simp only [Bool.and_eq_true,decide_eq_true_eq] at h;obtain ⟨rfl,rfl,h⟩:=h;rw [D.eqbs_ok _ _ h]
 ·rw [itB_ok h]
 ·rw [kvB_ok h]
 ·cases h
def tmB:TM AO→TM AO→Bool
 | .e,.e=>true
 | .n none l r,.n none l2 r2=>tmB l l2 && tmB r r2
 | .n (some v) l r,.n (some v2) l2 r2=>AO.eqb v v2 && (tmB l l2 && tmB r r2)
 | _,_=>false
theorem tmB_ok:∀ {x y:TM AO},tmB x y=true→x=y
 | .e,.e,_=>rfl
 | .e,.n _ _ _,h=>by simp [tmB] at h
 | .n none l r,.n none l2 r2,h=>by
  simp only [tmB,Bool.and_eq_true] at h;rw [tmB_ok h.1,tmB_ok h.2]
 | .n (some v) l r,.n (some v2) l2 r2,h=>by
  simp only [tmB,Bool.and_eq_true] at h;rw [AO.eqb_ok h.1,tmB_ok h.2.1,tmB_ok h.2.2]
 | .n none _ _,.n (some _) _ _,h=>by simp [tmB] at h
 | .n (some _) _ _,.n none _ _,h=>by simp [tmB] at h
 | .n (some _) _ _,.e,h=>by simp [tmB] at h
 | .n none _ _,.e,h=>by simp [tmB] at h
structure ME where
 f:Nat
 a:List SV
 o:TM AO
 k:Nat
 r:SV
 o2:TM AO
 k2:Nat
structure Env where
 Θ:Tab
 tb:Nat→Option Func
 nat:Nat→List SV→Option D
 nofr:Nat→Bool
 pure:Nat→Bool
 memo:Nat→List SV→TM AO→Nat→Option XR
structure EnvOk (P:Program) (X:Env):Prop where
 hΘ:TabOk P X.Θ
 tb : ∀ f fn, X.tb f = some fn → P.funcs[f]? = some fn ∧ (fn.name == "runtime.NumGoroutine") = false
 nat:∀ f asx d,X.nat f asx=some d→PSpec P f asx (.d d)
 mix:P.follows .mixedOrders=true
 memo:CallOk P X.memo
def dataL:List SV→Bool
 | []=>true
 | .d _ :: r=>dataL r
 | _=>false
def dataR:SV→Bool
 | .d _=>true
 | .tup xs=>dataL xs
 | _=>false
def rowsR:List SV→List Nat
 | []=>[]
 | .ag cs :: r=>rowsL cs++rowsR r
 | c :: r=>rowsV c++rowsR r
def SV.dd:SV→SV
 | .dx z xs=>.d (.sl z xs)
 | .ag cs=>match allD cs with
  | some ds=>if ds.all D.leaf=true then .d (.agg ds) else .ag cs
  | none=>.ag cs
 | c=>c
theorem SR.dd {w:World} {S:Nat→Prop} {γ:Nat→Value} {o:Nat→Option AO} {c:SV} {v:Value} (hc:SR w S γ o c v):SR w S γ o c.dd v:=by
 cases c with
 | dx z xs=>cases hc with
  | dx _ _ _ hr _=>exact .d _ _ hr
 | ag cs=>
  simp only [SV.dd];split
  ·rename_i ds hds;split
   ·rename_i hl;cases hc with
    | ag _ vs hv hr h1=>
     have he:=allD_spec hds;subst he;refine .d _ _ (.agg ds vs hl (by simpa using hv) fun i x u hx hu=>?_);have:=hr i (.d x) u (by rw [List.getElem?_map,hx];rfl) hu;cases this with
     | d _ _ hq=>exact hq
   ·exact hc
  ·exact hc
 | _=>exact hc
theorem SV.dd_lt {c:SV} {n:Nat} (hc:c.lt n):c.dd.lt n:=by
 cases c with
 | ag cs=>
  simp only [SV.dd];split
  ·split
   ·trivial
   ·exact hc
  ·exact hc
 | _=>first | exact hc | trivial
def XS.dd (s:XS):XS:=⟨s.sl.mapT SV.dd,s.o,s.nk⟩
theorem XS.dd_ok {E:Ent} {s:XS} {a:Act} {w:World} (h:Rel E s.st a w):Rel E s.dd.st a w:=by
 obtain ⟨S,γ,h⟩:=h;have e:∀ u,(s.dd.st.sl u)=(s.st.sl u).dd:=fun u=>by
  simp only [XS.dd,XS.st,TM.get_mapT];cases s.sl.get u <;> rfl
 exact ⟨S,γ,h.sto,h.tr,fun u=>by rw [e];exact (h.sl u).dd,fun u=>by rw [e];exact SV.dd_lt (h.slt u),h.df,h.nn⟩
def XS.tame (Θ:Tab) (rs:List ResultVar) (s:XS):XS:=
 match xRes Θ rs s with
 | some (vs,_)=>(s.frzs (rowsR vs)).dd
 | none=>s
theorem XS.tame_ok {Θ:Tab} {rs:List ResultVar} {E:Ent} {s:XS} {a:Act} {w:World} (h:Rel E s.st a w):Rel E (s.tame Θ rs).st a w:=by
 unfold XS.tame;split
 ·exact XS.dd_ok (XS.frzs_ok _ h)
 ·exact h
mutual
def xCall (X:Env):Nat→Nat→List SV→TM AO→Nat→Option XR
  | 0,_,_,_,_=>none
  | m+1,f,asx,o,nk=>match X.memo f asx o nk with
    | some r=>some r
    | none=>match X.nat f asx with
      | some d=>some (.d d,o,nk)
      | none=>bif X.pure f && dataL asx then (match xBody X m true f asx .e 0 with
          | some (r,_,_)=>bif dataR r then some (r,o,nk) else none
          | none=>none)
        else xBody X m false f asx o nk
def xBody (X:Env):Nat→Bool→Nat→List SV→TM AO→Nat→Option XR
  | 0,_,_,_,_,_=>none
  | m+1,fz,f,asx,o,nk=>match X.tb f with
      | none=>none
      | some fn=>match fn.body with
        | none=>none
        | some c=>bif Nat.ble asx.length fn.ntmps then match xC X m fn.ntmps c ⟨TM.ofList asx,o,nk⟩ with
            | none=>none
            | some (e,s)=>match (match e with
                | .normal=>true
                | .ret=>true
                | _=>false) with
              | false=>none
              | true=>match xRes X.Θ fn.results.toList (match fz with
                    | true=>s.tame X.Θ fn.results.toList
                    | false=>s) with
                | some (vs,s')=>some (tupOf vs,s'.o,s'.nk)
                | none=>match s.frzs (cellsR s fn.results.toList) with
                  | s1=>match xRes X.Θ fn.results.toList s1 with
                    | some (vs,s')=>some (tupOf vs,s'.o,s'.nk)
                    | none=>none
          else none
def xC (X:Env):Nat→Nat→Code→XS→Option (Exit×XS)
  | 0,_,_,_=>none
  | m+1,n,c,s=>match c with
    | .skip=>some (.normal,s)
    | .ret=>some (.ret,s)
    | .exit id=>some (.exit id,s)
    | .seq x y=>match xC X m n x s with
      | none=>none
      | some (e,s')=>match e with
        | .normal=>xC X m n y s'
        | e=>some (e,s')
    | .block id c=>match xC X m n c s with
      | none=>none
      | some (e,s')=>match e with
        | .exit id'=>bif Nat.beq id' id then some (.normal,s') else some (.exit id',s')
        | e=>some (e,s')
    | .cond x c d=>match xev s x with
      | .d (.bool true)=>xC X m n c s
      | .d (.bool false)=>xC X m n d s
      | _=>none
    | .loop c=>match xC X m n c s with
      | none=>none
      | some (e,s')=>match e with
        | .normal=>xC X m n (.loop c) s'
        | e=>some (e,s')
    | .scope c=>match xC X m n c s with
      | none=>none
      | some (e,s')=>match e with
        | .goto _=>none
        | e=>some (e,s')
    | .region _ ops drawn=>bif ops.toList.all fun o=>dstOk n o.dst then match drawn with
        | false=>match xOps X.Θ X.nofr (xCall X m) ops ops.toList s with
          | some s'=>some (.normal,s')
          | none=>none
        | true=>match xDrawF X.Θ X.nofr (xCall X m) ops s with
          | some s'=>some (.normal,s')
          | none=>none
      else none
    | _=>none
end
def Ran (P:Program) (n:Nat) (c:Code) (s:XS) (e:Exit) (s':XS):Prop:=∀ E a w,E.n=n→Rel E s.st a w→c.wp P (fun e2 a2 w2=>e2=e∧Rel E s'.st a2 w2) a w
theorem xDrawF_ok {P:Program} {Θ:Tab} {nofr:Nat→Bool} {call:Nat→List SV→TM AO→Nat→Option XR} {n:Nat} (hΘ:TabOk P Θ) (hm:P.follows .mixedOrders=true) (hc:CallOk P call) {id:Nat} {ops:Array Oper} {s s':XS} (hd:(ops.toList.all fun o=>dstOk n o.dst)=true)
    (h:xDrawF Θ nofr call ops s=some s'):Ran P n (.region id ops true) s .normal s':=by
  have key:∀ {s1:XS},xDraw Θ call ops s1=some s'→∀ E a w,E.n=n→Rel E s1.st a w→(Code.region id ops true).wp P (fun e2 a2 w2=>e2=.normal∧Rel E s'.st a2 w2) a w:=by
    intro s1 h1 E a w he hr;have:=xDraw_ok (Θ:=Θ) (call:=call) (P:=P) (n:=n) (k0:=E.nk) (Q:=fun e s2=>e=.normal∧s2=s'.st) (id:=id) hΘ hm hc hd h1 ⟨rfl,rfl⟩ E a w he rfl hr;exact Go.wp_mono this (by rintro e a' w' ⟨s2,h2,rfl,rfl⟩;exact ⟨rfl,h2⟩)
  have keyP:∀ {s1:XS},xDrawP Θ call ops s1=some s'→∀ E a w,E.n=n→Rel E s1.st a w→(Code.region id ops true).wp P (fun e2 a2 w2=>e2=.normal∧Rel E s'.st a2 w2) a w:=by
    intro s1 h1 E a w he hr;have:=xDrawP_ok (Θ:=Θ) (call:=call) (P:=P) (n:=n) (k0:=E.nk) (Q:=fun e s2=>e=.normal∧s2=s'.st) (id:=id) hΘ hm hc hd h1 ⟨rfl,rfl⟩ E a w he rfl hr;exact Go.wp_mono this (by rintro e a' w' ⟨s2,h2,rfl,rfl⟩;exact ⟨rfl,h2⟩)
  intro E a w he hr;unfold xDrawF at h;simp only at h;have hr1:=XS.frzs_ok (preD nofr ops.toList s) hr;split at h
  · rename_i s2 h2;simp only [Option.some.injEq] at h;subst h;exact key h2 E a w he hr1
  · split at h
    · rename_i s2 h2;simp only [Option.some.injEq] at h;subst h;exact key h2 E a w he (XS.soft_ok (XS.frzs_ok _ hr1))
    · split at h
      · rename_i s2 h2;simp only [Option.some.injEq] at h;subst h;exact keyP h2 E a w he hr1
      · exact keyP h E a w he (XS.soft_ok (XS.frzs_ok _ hr1))
theorem cond_bool {E:Ent} {s:XS} {a:Act} {w:World} {x:Operand} {b:Bool} (hr:Rel E s.st a w) (h:xev s x=.d (.bool b)):a.eval x=.bool b:=by
 obtain ⟨S,γ,hr⟩:=hr;have h1:=hr.fr.ev x;rw [← xev_eq,h] at h1;generalize a.eval x=u at h1;cases h1 with
 | d _ _ h2=>cases h2;rfl
theorem xC_loop {P:Program} {X:Env}:∀ (m:Nat),(∀ k,k < m→∀ n c s e s',xC X k n c s=some (e,s')→Ran P n c s e s')→∀ n c s e s',xC X m n (.loop c) s=some (e,s')→∀ E,E.n=n→
    ∃ k,∀ a w,Rel E s.st a w→Code.rounds P c (fun e2 a2 w2=>e2=e∧Rel E s'.st a2 w2) k a w
  | 0,_,n,c,s,e,s',h,_,_=>by simp [xC] at h
  | m+1,ih,n,c,s,e,s',h,E,he=>by
    simp only [xC] at h;cases hb:xC X m n c s with
    | none=>rw [hb] at h;cases h
    | some p=>
      obtain ⟨e1,s1⟩:=p;rw [hb] at h;have h1:=ih m (by omega) _ _ _ _ _ hb E;cases e1 with
      | normal=>
        simp only at h;obtain ⟨k,hk⟩:=xC_loop m (fun k hk=>ih k (by omega)) n c s1 e s' h E he;refine ⟨k+1,fun a w hr=>Go.wp_mono (h1 a w he hr) ?_⟩;rintro e2 a2 w2 ⟨rfl,h2⟩;exact hk a2 w2 h2
      | _=>
        simp only [Option.some.injEq,Prod.mk.injEq] at h;obtain ⟨rfl,rfl⟩:=h;refine ⟨1,fun a w hr=>Go.wp_mono (h1 a w he hr) ?_⟩;rintro e2 a2 w2 ⟨rfl,h2⟩;exact ⟨rfl,h2⟩
theorem of_list_st (asx:List SV) (o:TM AO) (nk:Nat):(XS.mk (TM.ofList asx) o nk).st={ sl:=slots asx,o:=o.get,nk:=nk }:=by
 simp only [XS.st,St.mk.injEq,and_true];funext u;rw [TM.get_ofList];simp [slots]
theorem ret_res {P:Program} {Θ:Tab} {E:Ent} {s s2:XS} {rs:List ResultVar} {vs:List SV} {e:Exit} {a:Act} {w:World} (he:e=.normal∨e=.ret) (h:xRes Θ rs s=some (vs,s2)) (hr:Rel E s.st a w) :
    ∃ s3,Rel E s3 a w∧retC Θ rs (fun r2 o2 n2=>r2=tupOf vs∧o2=s2.o.get∧n2=s2.nk) e s3:=by
  obtain ⟨rfl,h2⟩:=xRes_ok h;refine ⟨_,hr,?_⟩;rcases he with rfl | rfl <;> exact ⟨vs,h2,rfl,rfl,rfl⟩
theorem dataL_d:∀ {asx:List SV},dataL asx=true→∀ (i:Nat) (c:SV),asx[i]?=some c→∃ x,c=.d x
 | [],_,i,c,h=>by simp at h
 | .d x :: r,_,0,c,h=>by simp at h;exact ⟨x,h.symm⟩
 | .d x :: r,hd,i+1,c,h=>dataL_d (asx:=r) (by simpa [dataL] using hd) i c (by simpa using h)
 | .loc _ _ :: r,hd,i,c,h=>by simp [dataL] at hd
 | .row _ :: r,hd,i,c,h=>by simp [dataL] at hd
 | .el _ :: r,hd,i,c,h=>by simp [dataL] at hd
 | .rel _ _ _ :: r,hd,i,c,h=>by simp [dataL] at hd
 | .clo _ _ _ :: r,hd,i,c,h=>by simp [dataL] at hd
 | .tup _ :: r,hd,i,c,h=>by simp [dataL] at hd
 | .raw _ :: r,hd,i,c,h=>by simp [dataL] at hd
 | .any :: r,hd,i,c,h=>by simp [dataL] at hd
 | .view _ _ _ _ :: r,hd,i,c,h=>by simp [dataL] at hd
 | .dx _ _ :: r,hd,i,c,h=>by simp [dataL] at hd
 | .ag _ :: r,hd,i,c,h=>by simp [dataL] at hd
theorem sr_data {w w':World} {S S':Nat→Prop} {γ γ':Nat→Value} {o o':Nat→Option AO} {r:SV} {v:Value} (h:SR w S γ o r v) (hd:dataR r=true) (hS:∀ k,S k→S' k):SR w S' γ' o' r v∧∀ m,r.lt m:=by
 cases h with
 | d x _ hr=>exact ⟨.d _ _ (hr.mono hS fun _ _=>rfl),fun _=>trivial⟩
 | tup xs vs hv hr=>
  have hd:dataL xs=true:=hd;refine ⟨.tup xs vs hv fun i c u hc hu=>?_,fun m=>lts_of fun i c hc=>?_⟩
  ·obtain ⟨x,rfl⟩:=dataL_d hd i c hc;cases hr i _ u hc hu with
   | d _ _ hr=>exact .d _ _ (hr.mono hS fun _ _=>rfl)
  ·obtain ⟨x,rfl⟩:=dataL_d hd i c hc;trivial
 | _=>simp [dataR] at hd
theorem Spec.closeR {P:Program} {f:FuncId} {asx:List SV} {x:SV} (ha:dataL asx=true) (hx:dataR x=true) (h:Spec P f asx (fun _=>none) 0 fun r _ _=>r=x):PSpec P f asx x:=by
 intro o nk w S γ vs h1 h2 h3 h4;have hd:∀ (i:Nat) (c:SV) (v:Value),asx[i]?=some c→vs[i]?=some v→SR w S γ (fun _=>none) c v:=fun i c v hc hv=>by
  have hr:=h3 i c v hc hv;obtain ⟨y,rfl⟩:=dataL_d ha i c hc;cases hr with
  | d _ _ hr=>exact .d _ _ hr
 have hl:SV.lts 0 asx:=lts_of fun i c hc=>by
  obtain ⟨d,rfl⟩:=dataL_d ha i c hc;trivial
 have hs:Sto w S γ (fun _=>none) 0:=⟨h1.s_lt,fun _ _ h=>(by cases h),fun _ _ h=>(by cases h),fun _ _ _ _ h=>(by cases h),fun _ _ h=>(by cases h),fun _ _ _ h=>(by cases h),fun _ _ _ _ _ _ h=>(by cases h)⟩;refine (h w S γ vs hs h2 hd hl).mono ?_;rintro v w' ⟨r,o',nk',S',γ',rfl,k1,k2,k3,k4⟩;have hk:∀ k,k < w.heap.size→w'.heap[k]?=w.heap[k]?:=fun k hk=>k2.kept k hk (by rintro ⟨t,x,ht,_⟩;cases ht);obtain ⟨m1,m2⟩:=h1.more (w':=w') (fun k=>w.heap.size≤k∧k < w'.heap.size) (fun _ h=>h) k2.os k2.tape k2.output k2.size hk;have g:=sr_data (w':=w) (γ':=γ) (o':=o) (S':=fun k=>S k∨(w.heap.size≤k∧k < w'.heap.size)) k3 hx (fun k hk=>by
  rcases k2.s_new k hk with h | h | ⟨t,x,ht,_⟩
  ·exact .inl h
  ·exact .inr ⟨h,k1.s_lt k hk⟩
  ·cases ht)
 exact ⟨_,o,nk,_,γ,⟨rfl,rfl,rfl⟩,m1,m2,g.1,g.2 _⟩
theorem dataL_map:∀ xs:List D,dataL (xs.map .d)=true
 | []=>rfl
 | _ :: r=>dataL_map r
theorem Spec.close {P:Program} {f:FuncId} {xs:List D} {x:D} (h:Spec P f (xs.map .d) (fun _=>none) 0 fun r _ _=>r=.d x):PSpec P f (xs.map .d) (.d x):=Spec.closeR (dataL_map xs) rfl h
theorem xC_ok {P:Program} {X:Env} (hX:EnvOk P X):∀ m,(∀ n c s e s',xC X m n c s=some (e,s')→Ran P n c s e s')∧CallOk P (xCall X m)∧∀ fz,CallOk P (xBody X m fz):=by
 intro m
 induction m using Nat.strongRecOn with
 | _ m ih=>
  cases m with
  | zero=>exact ⟨fun n c s e s' h=>by simp [xC] at h,fun f asx o nk r o' nk' h=>by simp [xCall] at h,fun fz f asx o nk r o' nk' h=>by simp [xBody] at h⟩
  | succ m=>
   obtain ⟨ihC,ihF,ihB⟩:=ih m (by omega);refine ⟨?_,?_,?_⟩
   ·intro n c s e s' h;cases c with
    | skip=>
     simp only [xC,Option.some.injEq,Prod.mk.injEq] at h;obtain ⟨rfl,rfl⟩:=h;exact fun E a w he hr=>wp_skip ⟨rfl,hr⟩
    | ret=>
     simp only [xC,Option.some.injEq,Prod.mk.injEq] at h;obtain ⟨rfl,rfl⟩:=h;exact fun E a w he hr=>wp_ret ⟨rfl,hr⟩
    | exit id=>
     simp only [xC,Option.some.injEq,Prod.mk.injEq] at h;obtain ⟨rfl,rfl⟩:=h;exact fun E a w he hr=>wp_exit ⟨rfl,hr⟩
    | seq x y=>
     simp only [xC] at h;cases hb:xC X m n x s with
     | none=>rw [hb] at h;cases h
     | some p=>
      obtain ⟨e1,s1⟩:=p;rw [hb] at h;have h1:=ihC _ _ _ _ _ hb;intro E a w he hr;refine wp_seq (Go.wp_mono (h1 E a w he hr) ?_);rintro e2 a2 w2 ⟨rfl,h2⟩;cases e2 with
      | normal=>exact ihC _ _ _ _ _ h E a2 w2 he h2
      | _=>
       simp only [Option.some.injEq,Prod.mk.injEq] at h;obtain ⟨rfl,rfl⟩:=h;exact ⟨rfl,h2⟩
    | block id c=>
     simp only [xC] at h;cases hb:xC X m n c s with
     | none=>rw [hb] at h;cases h
     | some p=>
      obtain ⟨e1,s1⟩:=p;rw [hb] at h;have h1:=ihC _ _ _ _ _ hb;intro E a w he hr;refine wp_block (Go.wp_mono (h1 E a w he hr) ?_);rintro e2 a2 w2 ⟨rfl,h2⟩;cases e2 with
      | exit id'=>
       simp only at h;show if id'=id then _ else _
       by_cases hid:id'=id
       ·subst hid;rw [if_pos rfl];simp only [Nat.beq_refl,cond_true,Option.some.injEq,Prod.mk.injEq] at h;obtain ⟨rfl,rfl⟩:=h;exact ⟨rfl,h2⟩
       ·rw [if_neg hid];rw [TM.beq_cond,if_neg hid] at h;simp only [Option.some.injEq,Prod.mk.injEq] at h;obtain ⟨rfl,rfl⟩:=h;exact ⟨rfl,h2⟩
      | _=>
       simp only [Option.some.injEq,Prod.mk.injEq] at h;obtain ⟨rfl,rfl⟩:=h;exact ⟨rfl,h2⟩
    | cond x c d=>
     simp only [xC] at h;intro E a w he hr;split at h
     ·rename_i hx;exact wp_cond_true (cond_bool hr hx) (ihC _ _ _ _ _ h E a w he hr)
     ·rename_i hx;exact wp_cond_false (cond_bool hr hx) (ihC _ _ _ _ _ h E a w he hr)
     ·cases h
    | loop c=>
     intro E a w he hr;obtain ⟨k,hk⟩:=xC_loop (m+1) (fun k hk=>(ih k hk).1) n c s e s' h E he;exact wp_loop_rounds k (hk a w hr)
    | scope c=>
     simp only [xC] at h;cases hb:xC X m n c s with
     | none=>rw [hb] at h;cases h
     | some p=>
      obtain ⟨e1,s1⟩:=p;rw [hb] at h;have h1:=ihC _ _ _ _ _ hb;intro E a w he hr;refine wp_scope_straight (Go.wp_mono (h1 E a w he hr) ?_);rintro e2 a2 w2 ⟨rfl,h2⟩;cases e2 <;> first | (cases h;done) | (simp only [Option.some.injEq,Prod.mk.injEq] at h;obtain ⟨rfl,rfl⟩:=h;exact ⟨rfl,h2⟩)
    | region id ops drawn=>
     unfold xC at h;simp only at h;cases hd:(ops.toList.all fun o=>dstOk n o.dst) with
     | false=>rw [hd] at h;cases h
     | true=>
      rw [hd] at h;simp only [cond_true] at h;cases drawn with
      | false=>
       simp only at h;split at h
       ·rename_i s1 hs1;simp only [Option.some.injEq,Prod.mk.injEq] at h;obtain ⟨rfl,rfl⟩:=h;intro E a w he hr;refine wp_region_list ?_;exact xOps_ok hX.hΘ ihF (fun a w hr=>⟨rfl,hr⟩) _ _ a w (by rw [he];exact hd) hr hs1
       ·cases h
      | true=>
       simp only at h;split at h
       ·rename_i s1 hs1;simp only [Option.some.injEq,Prod.mk.injEq] at h;obtain ⟨rfl,rfl⟩:=h;exact xDrawF_ok hX.hΘ hX.mix ihF hd hs1
       ·cases h
    | _=>simp [xC] at h
   ·intro f asx o nk r o' nk' h;simp only [xCall] at h;split at h
    ·rename_i r0 hd;simp only [Option.some.injEq] at h;subst h;exact hX.memo f asx o nk r o' nk' hd
    split at h
    ·rename_i d hd;simp only [Option.some.injEq,Prod.mk.injEq] at h;obtain ⟨rfl,rfl,rfl⟩:=h;exact hX.nat f asx d hd o.get nk
    ·cases hp:(X.pure f && dataL asx) with
     | false=>
      rw [hp] at h;exact ihB false f asx o nk r o' nk' h
     | true=>
      rw [hp] at h;simp only [cond_true] at h;simp only [Bool.and_eq_true] at hp;cases hb:xBody X m true f asx .e 0 with
      | none=>rw [hb] at h;cases h
      | some q=>
       obtain ⟨r1,o1,k1⟩:=q;rw [hb] at h;simp only at h;cases hd:dataR r1 with
       | false=>rw [hd] at h;cases h
       | true=>
        rw [hd] at h;simp only [cond_true,Option.some.injEq,Prod.mk.injEq] at h;obtain ⟨rfl,rfl,rfl⟩:=h;have hs:=ihB true f asx .e 0 _ _ _ hb;have he:(TM.e:TM AO).get=fun _=>none:=by funext u;rfl
        rw [he] at hs;exact Spec.closeR hp.2 hd (hs.mono fun r2 o2 n2 h=>h.1) o.get nk
   ·intro fz f asx o nk r o' nk' h;simp only [xBody] at h;split at h
    ·cases h
    ·rename_i fn hfn;split at h
     ·cases h
     ·rename_i c hbody;cases hle:Nat.ble asx.length fn.ntmps with
      | false=>rw [hle] at h;cases h
      | true=>
       rw [hle] at h;simp only [cond_true] at h;split at h
       ·cases h
       ·rename_i e s1 hrun;have hrun:=ihC _ _ _ _ _ hrun;split at h
        ·cases h
        ·rename_i he;have he:e=.normal∨e=.ret:=by cases e <;> simp_all
         obtain ⟨k1,k2⟩:=hX.tb f fn hfn;refine Spec.of_bodyC hX.hΘ (rs:=fn.results.toList) (c:=c) (n:=fn.ntmps) ⟨fn,k1,hbody,k2,rfl,rfl⟩ (Nat.le_of_ble_eq_true hle) ?_;rw [← of_list_st];intro E a w hn _ hr;refine Go.wp_mono (hrun E a w hn hr) ?_;rintro e2 a2 w2 ⟨rfl,h2⟩;split at h
         ·rename_i vs s2 hres;simp only [Option.some.injEq,Prod.mk.injEq] at h;obtain ⟨rfl,rfl,rfl⟩:=h;cases fz with
          | true=>exact ret_res (P:=P) he hres (XS.tame_ok h2)
          | false=>exact ret_res (P:=P) he hres h2
         ·split at h
          ·rename_i vs s2 hres;simp only [Option.some.injEq,Prod.mk.injEq] at h;obtain ⟨rfl,rfl,rfl⟩:=h;exact ret_res (P:=P) he hres (XS.frzs_ok _ h2)
          ·cases h
def isD (x:D):Option XR→Bool
 | some (.d y,_,_)=>D.eqb x y
 | _=>false
theorem PSpec.run {P:Program} {X:Env} (hX:EnvOk P X) (m:Nat) {f:FuncId} {xs:List D} {x:D} (h:isD x (xCall X m f (xs.map .d) .e 0)=true):PSpec P f (xs.map .d) (.d x):=by
 refine Spec.close ?_;cases hx:xCall X m f (xs.map .d) .e 0 with
 | none=>rw [hx] at h;cases h
 | some p=>
  obtain ⟨r,o',nk'⟩:=p;rw [hx] at h;have hs:=(xC_ok hX m).2.1 _ _ _ _ _ _ _ hx;have he:(TM.e:TM AO).get=fun _=>none:=by funext u;rfl
  rw [he] at hs;refine hs.mono ?_;rintro r2 o2 n2 ⟨rfl,_,_⟩;cases r2 <;> simp only [isD] at h <;> try (cases h;done)
  rw [D.eqb_ok _ _ h]
def isR (r:SV) (o2:TM AO) (k2:Nat):Option XR→Bool
 | some (r',o',k')=>Nat.beq k2 k' && (SV.eqb r r' && tmB o2 o')
 | _=>false
theorem ME.run {P:Program} {X:Env} (hX:EnvOk P X) (m:Nat) (e:ME) (h:isR e.r e.o2 e.k2 (xCall X m e.f e.a e.o e.k)=true):Spec P e.f e.a e.o.get e.k fun r2 o2 n2=>r2=e.r∧o2=e.o2.get∧n2=e.k2:=by
 cases hx:xCall X m e.f e.a e.o e.k with
 | none=>rw [hx] at h;cases h
 | some p=>
  obtain ⟨r,o',k'⟩:=p;rw [hx] at h;simp only [isR,Bool.and_eq_true] at h;obtain ⟨h1,h2,h3⟩:=h;rw [Nat.eq_of_beq_eq_true h1,SV.eqb_ok h2,tmB_ok h3];exact (xC_ok hX m).2.1 _ _ _ _ _ _ _ hx
def tbF:List (Nat×Func)→Nat→Option Func
 | [],_=>none
 | (k,fn) :: r,f=>bif Nat.beq k f then some fn else tbF r f
theorem tbF_ok {P : Program} : ∀ (l : List (Nat × Func)), (∀ p ∈ l, P.funcs[p.1]? = some p.2 ∧ (p.2.name == "runtime.NumGoroutine") = false) → ∀ f fn, tbF l f = some fn → P.funcs[f]? = some fn ∧ (fn.name == "runtime.NumGoroutine") = false
 | [],_,f,fn,h=>by simp [tbF] at h
 | (k,g) :: r,hl,f,fn,h=>by
  simp only [tbF,TM.beq_cond] at h;split at h
  ·rename_i hk;subst hk;simp only [Option.some.injEq] at h;subst h;exact hl (k,g) (by simp)
  ·exact tbF_ok r (fun p hp=>hl p (by simp [hp])) f fn h
end Go.Proofs.YtpkcbdhjnnnkbaaGreat.Abs

namespace Go.Proofs.YtpkcbdhjnnnkbaaGreat.Abs.Run27
open Go
noncomputable def tbl:List (Nat×Func):=[(27,Tryz.f27),(29,Tryz.f29),(34,Tryz.f34),(36,Tryz.f36),(38,Tryz.f38),(39,Tryz.f39),(41,Tryz.f41),(42,Tryz.f42),(56,Tryz.f56),(70,Tryz.f70),(71,Tryz.f71),(72,Tryz.f72),(73,Tryz.f73),(74,Tryz.f74),(75,Tryz.f75),(76,Tryz.f76),(77,Tryz.f77),(78,Tryz.f78),(84,Tryz.f84),(85,Tryz.f85),(86,Tryz.f86),(87,Tryz.f87),(92,Tryz.f92),(93,Tryz.f93),(106,Tryz.f106),(107,Tryz.f107),(108,Tryz.f108),(109,Tryz.f109),(110,Tryz.f110),(111,Tryz.f111),(112,Tryz.f112),(119,Tryz.f119),(120,Tryz.f120),(121,Tryz.f121),(122,Tryz.f122),(123,Tryz.f123),(124,Tryz.f124),(125,Tryz.f125),(126,Tryz.f126),(127,Tryz.f127),(128,Tryz.f128),(129,Tryz.f129),(130,Tryz.f130),(131,Tryz.f131),(132,Tryz.f132),(133,Tryz.f133),(137,Tryz.f137),(138,Tryz.f138),(139,Tryz.f139),(142,Tryz.f142),(143,Tryz.f143),(151,Tryz.f151),(152,Tryz.f152),(153,Tryz.f153),(154,Tryz.f154),(155,Tryz.f155),(156,Tryz.f156),(157,Tryz.f157),(158,Tryz.f158),(159,Tryz.f159),(160,Tryz.f160),(161,Tryz.f161),(162,Tryz.f162),(163,Tryz.f163),(164,Tryz.f164),(165,Tryz.f165),(166,Tryz.f166),(167,Tryz.f167),(168,Tryz.f168),(169,Tryz.f169),(179,Tryz.f179),(180,Tryz.f180),(181,Tryz.f181),(182,Tryz.f182),(183,Tryz.f183),(184,Tryz.f184),(185,Tryz.f185),(186,Tryz.f186),(187,Tryz.f187),(188,Tryz.f188),(189,Tryz.f189),(190,Tryz.f190),(191,Tryz.f191),(192,Tryz.f192),(193,Tryz.f193),(197,Tryz.f197),(199,Tryz.f199),(200,Tryz.f200),(201,Tryz.f201),(203,Tryz.f203),(204,Tryz.f204),(209,Tryz.f209)]
theorem tbl_ok : ∀ p ∈ tbl, Tryz.prog.funcs[p.1]? = some p.2 ∧ (p.2.name == "runtime.NumGoroutine") = false := by
 simp only [tbl,List.forall_mem_cons];exact ⟨⟨Tryz.func27,by kernel_rfl⟩,⟨Tryz.func29,by kernel_rfl⟩,⟨Tryz.func34,by kernel_rfl⟩,⟨Tryz.func36,by kernel_rfl⟩,⟨Tryz.func38,by kernel_rfl⟩,⟨Tryz.func39,by kernel_rfl⟩,⟨Tryz.func41,by kernel_rfl⟩,⟨Tryz.func42,by kernel_rfl⟩,⟨Tryz.func56,by kernel_rfl⟩,⟨Tryz.func70,by kernel_rfl⟩,⟨Tryz.func71,by kernel_rfl⟩,⟨Tryz.func72,by kernel_rfl⟩,⟨Tryz.func73,by kernel_rfl⟩,⟨Tryz.func74,by kernel_rfl⟩,⟨Tryz.func75,by kernel_rfl⟩,⟨Tryz.func76,by kernel_rfl⟩,⟨Tryz.func77,by kernel_rfl⟩,⟨Tryz.func78,by kernel_rfl⟩,⟨Tryz.func84,by kernel_rfl⟩,⟨Tryz.func85,by kernel_rfl⟩,⟨Tryz.func86,by kernel_rfl⟩,⟨Tryz.func87,by kernel_rfl⟩,⟨Tryz.func92,by kernel_rfl⟩,⟨Tryz.func93,by kernel_rfl⟩,⟨Tryz.func106,by kernel_rfl⟩,⟨Tryz.func107,by kernel_rfl⟩,⟨Tryz.func108,by kernel_rfl⟩,⟨Tryz.func109,by kernel_rfl⟩,⟨Tryz.func110,by kernel_rfl⟩,⟨Tryz.func111,by kernel_rfl⟩,⟨Tryz.func112,by kernel_rfl⟩,⟨Tryz.func119,by kernel_rfl⟩,⟨Tryz.func120,by kernel_rfl⟩,⟨Tryz.func121,by kernel_rfl⟩,⟨Tryz.func122,by kernel_rfl⟩,⟨Tryz.func123,by kernel_rfl⟩,⟨Tryz.func124,by kernel_rfl⟩,⟨Tryz.func125,by kernel_rfl⟩,⟨Tryz.func126,by kernel_rfl⟩,⟨Tryz.func127,by kernel_rfl⟩,⟨Tryz.func128,by kernel_rfl⟩,⟨Tryz.func129,by kernel_rfl⟩,⟨Tryz.func130,by kernel_rfl⟩,⟨Tryz.func131,by kernel_rfl⟩,⟨Tryz.func132,by kernel_rfl⟩,⟨Tryz.func133,by kernel_rfl⟩,⟨Tryz.func137,by kernel_rfl⟩,⟨Tryz.func138,by kernel_rfl⟩,⟨Tryz.func139,by kernel_rfl⟩,⟨Tryz.func142,by kernel_rfl⟩,⟨Tryz.func143,by kernel_rfl⟩,⟨Tryz.func151,by kernel_rfl⟩,⟨Tryz.func152,by kernel_rfl⟩,⟨Tryz.func153,by kernel_rfl⟩,⟨Tryz.func154,by kernel_rfl⟩,⟨Tryz.func155,by kernel_rfl⟩,⟨Tryz.func156,by kernel_rfl⟩,⟨Tryz.func157,by kernel_rfl⟩,⟨Tryz.func158,by kernel_rfl⟩,⟨Tryz.func159,by kernel_rfl⟩,⟨Tryz.func160,by kernel_rfl⟩,⟨Tryz.func161,by kernel_rfl⟩,⟨Tryz.func162,by kernel_rfl⟩,⟨Tryz.func163,by kernel_rfl⟩,⟨Tryz.func164,by kernel_rfl⟩,⟨Tryz.func165,by kernel_rfl⟩,⟨Tryz.func166,by kernel_rfl⟩,⟨Tryz.func167,by kernel_rfl⟩,⟨Tryz.func168,by kernel_rfl⟩,⟨Tryz.func169,by kernel_rfl⟩,⟨Tryz.func179,by kernel_rfl⟩,⟨Tryz.func180,by kernel_rfl⟩,⟨Tryz.func181,by kernel_rfl⟩,⟨Tryz.func182,by kernel_rfl⟩,⟨Tryz.func183,by kernel_rfl⟩,⟨Tryz.func184,by kernel_rfl⟩,⟨Tryz.func185,by kernel_rfl⟩,⟨Tryz.func186,by kernel_rfl⟩,⟨Tryz.func187,by kernel_rfl⟩,⟨Tryz.func188,by kernel_rfl⟩,⟨Tryz.func189,by kernel_rfl⟩,⟨Tryz.func190,by kernel_rfl⟩,⟨Tryz.func191,by kernel_rfl⟩,⟨Tryz.func192,by kernel_rfl⟩,⟨Tryz.func193,by kernel_rfl⟩,⟨Tryz.func197,by kernel_rfl⟩,⟨Tryz.func199,by kernel_rfl⟩,⟨Tryz.func200,by kernel_rfl⟩,⟨Tryz.func201,by kernel_rfl⟩,⟨Tryz.func203,by kernel_rfl⟩,⟨Tryz.func204,by kernel_rfl⟩,⟨Tryz.func209,by kernel_rfl⟩,by simp⟩
noncomputable def nofr:List Nat:=[34,38,85,87,92,93,106,107,108,109,138,139,143,151,179,180,191,193]
noncomputable def pures:List Nat:=[29,56,70,71,72,73,74,76,77,78,110,111,120,122,123,124,125,126,128,130,131,132,133,152,153,155,156,157,158,160,161,162,164,166,167,168,181,182,183,184,186,187,188,189,197,199,203,204,209]
def natF (f:Nat) (asx:List SV):Option D:=
 match asx with
 | [.d (.str s),.d (.int .u8 c)]=>bif Nat.beq f 208 then some (.int .i64 (Go.Lib.indexByte s c.toNat.toUInt8)) else none
 | [.d (.str s),.d (.str t)]=>bif Nat.beq f 212 then some (.int .i64 (Go.Lib.compareBytes s t)) else none
 | _=>none
theorem natF_ok (f:Nat) (asx:List SV) (d:D) (h:natF f asx=some d):PSpec Tryz.prog f asx (.d d):=by
 unfold natF at h;split at h
 ·rw [TM.beq_cond] at h;split at h
  ·rename_i hf;subst hf;simp only [Option.some.injEq] at h;subst h;exact s208 _ _
  ·cases h
 ·rw [TM.beq_cond] at h;split at h
  ·rename_i hf;subst hf;simp only [Option.some.injEq] at h;subst h;exact s212 _ _
  ·cases h
 ·cases h
noncomputable def env:Env:=⟨Θ,tbF tbl,natF,fun f=>(nofr++[0,1,2,3,4,5,6,7,8,9,10,11,12,13,14,15,16,17,18,19,20,21,22,23,24,25,26,27,28,29,30,31,32,33,34,35,36,37,38,39,40,41,42,43,44,45,46,47,48,49,50,51,52,53,54,55,56,57,58,59,60,61,62,63,64,65,66,67,68,69,70,71,72,73,74,75,76,77,78,79,80,81,82,83,84,85,86,87,88,89,90,91,92,93,94,95,96,97,98,99,100,101,102,103,104,105,106,107,108,109,110,111,112,113,114,115,116,117,118,119,120,121,122,123,124,125,126,127,128,129,130,131,132,133,134,135,136,137,138,139,140,141,142,143,144,145,146,147,148,149,150,151,152,153,154,155,156,157,158,159,160,161,162,163,164,165,166,167,168,169,170,171,172,173,174,175,176,177,178,179,180,181,182,183,184,185,186,187,188,189,190,191,192,193,194,195,196,197,198,199,200,201,202,203,204,205,206,207,208,209,210,211,212,213,214,215,216,217,218,219,220,221,222,223,224,225,226,227,228,229,230,231,232,233,234,235,236,237,238,239,240,241,242,243,244,245,246,247,248,249,250,251,252,253,254,255,256,257,258,259,260,261,262,263,264,265,266,267,268,269,270,271,272,273,274,275,276,277,278,279,280,281,282,283,284,285,286,287,288,289,290,291,292,293,294,295,296,297,298,299,300,301,302,303,304,305,306,307,308,309,310,311,312,313,314,315,316,317,318,319,320,321,322,323,324,325,326,327,328,329,330]).contains f,fun f=>pures.contains f,fun _ _ _ _=>none⟩
theorem envOk:EnvOk Tryz.prog env:=⟨tabOk,fun f fn h=>tbF_ok tbl tbl_ok f fn h,natF_ok,mix,fun _ _ _ _ _ _ _ h=>by cases h⟩
theorem ran:isD (.bool true) (xCall env 1000000 27 (([]:List D).map .d) .e 0)=true:=by kernel_rfl
theorem s:PSpec Tryz.prog 27 (([]:List D).map .d) (.d (.bool true)):=PSpec.run envOk 1000000 (xs:=([]:List D)) ran
end Go.Proofs.YtpkcbdhjnnnkbaaGreat.Abs.Run27
namespace Go.Proofs.YtpkcbdhjnnnkbaaGreat.Abs
theorem s27:PSpec Tryz.prog 27 (([]:List D).map .d) (.d (.bool true)):=Run27.s
end Go.Proofs.YtpkcbdhjnnnkbaaGreat.Abs



namespace Go.Proofs.YtpkcbdhjnnnkbaaGreat.Abs
open Go
theorem sameDs_refl (a:List Dlt):sameDs a a=true:=by simp [sameDs]
open Go.ChangeShapes Go.WideShapes Go.ChangeAt Go.RowKit Go.WideElems
def Sof (w:World):Nat→Prop:=fun k=>k < w.heap.size
def RdC (w:World) (xs:List D) (cs:List Value):Prop:=cs.length=xs.length∧∀ (i:Nat) (x:D) (v:Value),xs[i]?=some x→cs[i]?=some v→Rd w (Sof w) x v
def D.cl:D→List D
 | .agg xs=>xs
 | x=>[x]
def D.ok1:D→Prop
 | .agg xs=>xs.all D.leaf=true
 | _=>True
theorem val_of {w:World} {x:D} {cs:List Value} (h:RdC w x.cl cs) (ho:x.ok1):∃ v:Value,v.cells.toList=cs∧Rd w (Sof w) x v:=by
 obtain ⟨h1,h2⟩:=h;by_cases hx:x.leaf=true
 ·have hc:x.cl=[x]:=by cases x <;> first | rfl | (simp [D.leaf] at hx)
  rw [hc] at h1 h2
  match cs,h1 with
  | [v],_=>
   have hr:=h2 0 x v rfl rfl;exact ⟨v,by rw [hr.leaf_cells hx],hr⟩
 ·cases x <;> simp [D.leaf] at hx
  rename_i xs;exact ⟨.agg cs.toArray,by simp [Value.cells],.agg xs cs ho h1 h2⟩
theorem rdC_one {w:World} {x:D} {v:Value} (h:Rd w (Sof w) x v):RdC w [x] [v]:=by
 refine ⟨rfl,fun i y u h1 h2=>?_⟩
 match i with
 | 0=>simp at h1 h2;subst h1;subst h2;exact h
 | i+1=>simp at h1
theorem rdC_nil {w:World} {cs:List Value} {o:Nat} (h:cs.length=o):RdC w [] (cs.drop o):=⟨by simp [h],fun i x v h=>by simp at h⟩
theorem rdC_cat {w:World} {xs ys:List D} {cs:List Value} {o n:Nat} (h1:RdC w xs ((cs.drop o).take n)) (hn:xs.length=n) (h2:RdC w ys (cs.drop (o+n))):RdC w (xs++ys) (cs.drop o):=by
 obtain ⟨a1,a2⟩:=h1;obtain ⟨b1,b2⟩:=h2;have hl:n≤(cs.drop o).length:=by simp at a1 ⊢;omega
 have he:cs.drop o=(cs.drop o).take n++cs.drop (o+n):=by rw [← List.drop_drop];exact (List.take_append_drop n _).symm
 refine ⟨by simp at b1 hl ⊢;omega,fun i x v hx hv=>?_⟩;rcases Nat.lt_or_ge i xs.length with h | h
 ·rw [List.getElem?_append_left h] at hx;exact a2 i x v hx (by rw [List.getElem?_take,if_pos (by omega)];exact hv)
 ·rw [List.getElem?_append_right h] at hx;refine b2 (i - xs.length) x v hx ?_;rw [List.getElem?_drop] at hv ⊢;rw [show o+n+(i - xs.length)=o+i by omega];exact hv
theorem list_of {α:Type} {Q:Nat→α→Prop}:∀ n,(∀ i,i < n→∃ a,Q i a)→∃ l:List α,l.length=n∧∀ i a,l[i]?=some a→Q i a
 | 0,_=>⟨[],rfl,by simp⟩
 | n+1,h=>by
  obtain ⟨l,h1,h2⟩:=list_of n fun i hi=>h i (by omega);obtain ⟨a,ha⟩:=h n (by omega);refine ⟨l++[a],by simp [h1],fun i b hb=>?_⟩;rcases Nat.lt_or_ge i l.length with hi | hi
  ·rw [List.getElem?_append_left hi] at hb;exact h2 i b hb
  ·rw [List.getElem?_append_right hi] at hb;have:i - l.length=0:=by
    rcases Nat.eq_zero_or_pos (i - l.length) with h' | h'
    ·exact h'
    ·rw [List.getElem?_eq_none (by simp;omega)] at hb;cases hb
   rw [this] at hb;simp at hb;subst hb;rw [show i=n by omega];exact ha
theorem mapM_some {α β:Type} {f:α→Option β}:∀ {l:List α} {r:List β},l.mapM f=some r→r.length=l.length∧∀ (i:Nat) (a:α),l[i]?=some a→f a=r[i]?
 | [],r,h=>by
  simp at h;subst h;exact ⟨rfl,by simp⟩
 | a :: l,r,h=>by
  rw [List.mapM_cons] at h;simp only [Option.bind_eq_bind,Option.bind_eq_some_iff,Option.pure_def,Option.some.injEq] at h;obtain ⟨b,hb,r',hr,rfl⟩:=h;obtain ⟨h1,h2⟩:=mapM_some hr;refine ⟨by simp [h1],fun i x hx=>?_⟩
  match i with
  | 0=>simp at hx;subst hx;simpa using hb
  | i+1=>simpa using h2 i x (by simpa using hx)
theorem cells_some {w:World} {b n:Nat} {a:Addr} {cs:List Value} (h:w.cells? b a n=some cs):cs.length=n∧∀ j,j < n→w.cell? (a.add j)=cs[j]?:=by
 unfold World.cells? at h;split at h
 ·obtain ⟨h1,h2⟩:=mapM_some h;rw [List.length_range] at h1;exact ⟨h1,fun j hj=>h2 j j (by rw [List.getElem?_range hj])⟩
 ·cases h
section
variable {H:Type} {enc:TypeId×Value→H} {P:Program} {w:World} {base fuel:Nat} {spare:Nat→Bool} {held:Bool} {t e:TypeId} {cs:List Value} {x:DataW H×List MemPlace}
def All2 {α:Type} (A:α→DataW H→Prop) (l:List α) (es:List (DataW H)):Prop:=l.length=es.length∧∀ (i:Nat) (a:α) (y:DataW H),l[i]?=some a→es[i]?=some y→A a y
def SlD {α:Type} (A:α→DataW H→Prop) (l:List α) (d:DataW H):Prop:=(d=.nil∧l=[])∨∃ es sp,d=.slice es sp∧All2 A l es
theorem rd_slice {α:Type} {z:Nat} (encA:α→D) (A:α→DataW H→Prop) (hu:P.underlying t=some (.slice e)) (hz:P.cellsOf e=z) (hz0:0 < z) (hzA:∀ a,(encA a).cl.length=z) (hok:∀ a,(encA a).ok1)
    (h:DataW.trod enc P w base spare held fuel t cs=some x)
    (he:∀ n cs x,n < fuel→DataW.trod enc P w base spare held n e cs=some x→∃ a,RdC w (encA a).cl cs∧A a x.1) :
    ∃ l:List α,RdC w [.sl z (l.map encA)] cs∧SlD A l x.1:=by
  rcases DataW.trod_slice hu h with ⟨rfl,rfl⟩ | ⟨a,len,cap,elems,rest,n,hf,rfl,rfl,hb,hlc,hcm,hlen,hel,_⟩
  · exact ⟨[],rdC_one (.emp _ _ _ (by omega)),.inl ⟨rfl,rfl⟩⟩
  · rw [hz] at hel;have key:∀ i,i < len→∃ p:α×Value,(∃ cs',w.cells? base (a.add (i * z)) z=some cs'∧p.2.cells.toList=cs')∧Rd w (Sof w) (encA p.1) p.2∧∀ y,elems[i]?=some y→A p.1 y.1:=by
      intro i hi;have h1:=hel i hi;rw [List.getElem?_eq_getElem (by omega)] at h1;obtain ⟨cs',h2,h3⟩:=Option.bind_eq_some_iff.1 h1;obtain ⟨b,h4,h5⟩:=he n cs' _ (by omega) h3;obtain ⟨v,h6,h7⟩:=val_of h4 (hok b);refine ⟨(b,v),⟨cs',h2,h6⟩,h7,fun y hy=>?_⟩;rw [List.getElem?_eq_getElem (by omega)] at hy;injection hy with hy;rw [← hy];exact h5
    obtain ⟨l,hl1,hl2⟩:=list_of len key;refine ⟨l.map (·.1),?_,.inr ⟨_,_,rfl,by simp [hl1,hlen],fun i b y hb' hy=>?_⟩⟩
    · refine rdC_one ?_;rcases Nat.eq_zero_or_pos len with h0 | h0
      · have:l=[]:=List.eq_nil_of_length_eq_zero (by omega);subst this;subst h0;exact .emp _ _ _ (by simpa [maxLen] using hcm)
      · have hS:Sof w a.block:=by
          obtain ⟨p,⟨cs',h1,_⟩,_⟩:=key 0 h0;obtain ⟨h2,h3⟩:=cells_some h1;have h4:=h3 0 hz0;rw [List.getElem?_eq_getElem (by omega)] at h4;have:=World.block_lt_of_cell? w _ h4
          rwa [add_block,add_block] at this
        have hlm:((l.map (·.1)).map encA).length=len:=by simp [hl1]
        rw [← hlm];refine .sl z _ a cap (l.map (·.2)) (by omega) (by simpa [maxLen] using hcm) hS (by simp [hl1]) (fun i y v hy hv=>?_) (fun i v hv=>?_) (fun i j v u hv hu'=>?_)
        · rw [List.getElem?_map,List.getElem?_map] at hy;rw [List.getElem?_map] at hv;cases hp:l[i]? with
          | none=>rw [hp] at hv;cases hv
          | some p=>
            rw [hp] at hy hv;simp at hy hv;subst hy;subst hv;exact (hl2 i p hp).2.1
        · rw [List.getElem?_map] at hv;obtain ⟨p,hp,rfl⟩:=Option.map_eq_some_iff.1 hv;obtain ⟨⟨cs',h1,h2⟩,_,_⟩:=hl2 i p hp;have:=(cells_some h1).1;rw [← h2] at this;simpa using this
        · rw [List.getElem?_map] at hv;obtain ⟨p,hp,rfl⟩:=Option.map_eq_some_iff.1 hv;obtain ⟨⟨cs',h1,h2⟩,_,_⟩:=hl2 i p hp;obtain ⟨h3,h4⟩:=cells_some h1;have hj:j < p.2.cells.size:=(Array.getElem?_eq_some_iff.1 hu').1;have hjz:j < z:=by
            rw [← h2] at h3;simp at h3;omega
          have h5:=h4 j hjz;rw [Addr_add_add] at h5;rw [h5,← h2];simpa using hu'
    · rw [List.getElem?_map] at hb' hy;obtain ⟨p,hp,rfl⟩:=Option.map_eq_some_iff.1 hb';obtain ⟨q,hq,rfl⟩:=Option.map_eq_some_iff.1 hy;exact (hl2 i p hp).2.2 q hq
theorem rd_int {k:IntKind} (hu:P.underlying t=some (.int k)) (h:DataW.trod enc P w base spare held fuel t cs=some x):∃ n,RdC w [.int k n] cs∧x.1=.lit (.int k n)∧(Lit.int k n).wf=true:=by
 obtain ⟨n,rfl,rfl,hw⟩:=DataW.trod_int hu h;exact ⟨n,rdC_one (.int _ _),rfl,hw⟩
theorem rd_str (hu:P.underlying t=some .string) (h:DataW.trod enc P w base spare held fuel t cs=some x):∃ s:List UInt8,RdC w [.str s] cs∧x.1=.lit (.string s):=by
 obtain ⟨s,rfl,rfl,hs⟩:=DataW.trod_string hu h;refine ⟨s.data.toList,rdC_one ?_,rfl⟩;have he:(⟨s.data.toList.toArray⟩:ByteArray)=s:=by
  apply ByteArray.ext;simp
 have:=Rd.str (w:=w) (S:=Sof w) s.data.toList (by
  have hl:s.data.toList.length=s.size:=by rw [Array.length_toList];rfl
  unfold maxLen at hs;omega)
 rwa [he] at this
theorem rd_struct {i:TI} {fs:List (Nat×Nat)} (hT:TOk P t i) (hk:i.k=.struct fs) (h:DataW.trod enc P w base spare held fuel t cs=some x) :
    ∃ (xs:List (DataW H×List MemPlace)) (n:Nat),n < fuel∧x.1=.agg (xs.map (·.1))∧cs.length=P.cellsOf t∧xs.length=fs.length∧
      ∀ (i:Nat) (f:Nat×Nat),fs[i]?=some f→DataW.trod enc P w base spare held n f.2 ((cs.drop f.1).take (P.cellsOf f.2))=xs[i]?:=by
  obtain ⟨F,hF,rfl,_⟩:=hT.struct hk;obtain ⟨xs,n,hf,hx,hl,hlen,hfs⟩:=DataW.trod_struct hF h;refine ⟨xs,n,by omega,by rw [hx],hl,by simp [hlen],fun j f hj=>?_⟩;rw [List.getElem?_map] at hj;obtain ⟨g,hg,rfl⟩:=Option.map_eq_some_iff.1 hj;exact hfs j g (by simpa using hg)
theorem wf_i64 {n:Int} (h:(Lit.int .i64 n).wf=true):-9223372036854775808≤n∧n≤9223372036854775807:=bounds_i64 h
theorem wf_u8 {n:Int} (h:(Lit.int .u8 n).wf=true):0≤n∧n≤255:=bounds_u8 h
end
theorem rdv_one {P:Program} {w W:World} {r:Reach} {base:Nat} {t:TypeId} {i:TI} {x:D} {v:Value} (h:Value.okWide P W r base t v) (hT:TOk P t i) (hk:i.k.agg=false) (hc:RdC w [x] v.cells.toList):Rd w (Sof w) x v:=by
 have hne:∀ cs,v≠.agg cs:=by
  rintro cs rfl;have hk2:=hT.k;unfold tkOf at hk2;unfold Value.okWide Cell.okWide Cell.ok at h;cases hu:P.underlying t with
  | none=>rw [hu] at h;simp at h
  | some d=>
   rw [hu] at h hk2;cases d <;> simp at h hk2
   all_goals first
    | (rw [← hk2] at hk;cases hk)
    | (rw [← hk2.2] at hk;cases hk)
 have hv:v.cells=#[v]:=by
  cases v <;> first | rfl | exact absurd rfl (hne _)
 rw [hv] at hc;exact hc.2 0 x v rfl rfl
section
variable {H:Type} {enc:TypeId×Value→H} {P:Program}
theorem post_of_below {f:Func} {s:ChangeSpec} {apart fresh handsOn again:Bool} {W W':World} {args:Array Value} {v:Value} {ds gs:List (DataW H)} {before pa pv:List MemPlace}
    (hW:DataW.Whole enc P f.params.toList s.vars apart W args.toList ds gs before)
    (hres:∀ (b:Nat) (sp:Nat→Bool) (hd:Bool),DataW.TrodAll enc P W' b sp hd f.resultTypes.toList (v.resultList f.resultTypes.size) (s.fn H (ds++gs)).results [])
    (hargs:∀ sp:Nat→Bool,(∀ p∈before,sp p.block=true)→DataW.TrodAll enc P W' 0 sp true f.params.toList args.toList (s.fn H (ds++gs)).args pa)
    (hvars:∀ sp:Nat→Bool,(∀ p∈before,sp p.block=true)→DataW.TrodVars enc P W' sp s.vars (s.fn H (ds++gs)).vars pv)
    (hps:before=pa++pv) (hb:Below W.heap.size W W')
    (hok:∀ (j:Nat) (t:TypeId) (r:Value),f.resultTypes[j]?=some t→(v.resultList f.resultTypes.size)[j]?=some r→Value.okWide P W' .any 0 t r) :
    s.post enc P f apart fresh handsOn again W args v W':=by
  have hlt:∀ p∈before,p.block < W.heap.size:=fun p hp=>hW.lt p hp;have hold:∀ p∈before,(fun b=>decide (b < W.heap.size)) p.block=true:=fun p hp=>by simpa using hlt p hp
  refine ⟨ds,gs,before,[],pa,pv,hW,hres _ _ _,hargs _ hold,hvars _ hold,World.keptBut_mono (fun p hp=>⟨hp,?_⟩) (hb.frame (·∈before)),fun _=>?_⟩
  · rw [hps,List.mem_append] at hp;exact Or.inr hp
  · obtain ⟨_,_,_,_,_,hz,hn⟩:=hW;refine ⟨hok,_,_,([]++pa)++pv,⟨[]++pa,pv,trodAll_append (hargs _ (fun _ _=>rfl)) (hres _ _ _),hvars _ (fun _ _=>rfl),rfl,?_,?_⟩,?_⟩
    · intro b off hp;have hin:MemPlace.cell b off∈before:=by rw [hps];simpa using hp
      rw [hb.frozen (hlt _ hin)];exact hz b off hin
    · intro ha;have:=hn ha;rw [hps] at this;simpa using this
    · intro p hp _;rw [hps];simpa using hp
theorem trodAll_stays (hl:laidOutB P=true) {W W':World} (hb:Below W.heap.size W W'):∀ {ts:List TypeId} {vs:List Value} {ds:List (DataW H)} {ps:List MemPlace} {sp:Nat→Bool},(ts.all fun t=>P.readableRec t && decide (t < P.types.size))=true→
    DataW.TrodAll enc P W 0 (fun _=>true) true ts vs ds ps→(∀ p∈ps,sp p.block=true)→(∀ p∈ps,p.block < W.heap.size)→DataW.TrodAll enc P W' 0 sp true ts vs ds ps
  | [],vs,ds,ps,sp,_,h,_,_=>by
    obtain ⟨rfl,rfl,rfl⟩:=trodAll_nil h;rfl
  | t :: ts,vs,ds,ps,sp,ht,h,hs,hlt=>by
    obtain ⟨v,vs',d,ds',p,q,rfl,rfl,rfl,h1,h2⟩:=trodAll_cons h;simp only [List.all_cons,Bool.and_eq_true,decide_eq_true_eq] at ht;exact trodAll_cons_mk (Trod_stays hl ht.1.1 ht.1.2 h1 (fun x hx=>hb.same (hlt x (by simp [hx]))) fun x hx=>hs x (by simp [hx])) (trodAll_stays hl hb ht.2 h2 (fun x hx=>hs x (by simp [hx])) fun x hx=>hlt x (by simp [hx]))
theorem calls_of_spec {f : FuncId} {fn : Func} {W : World} {vs : List Value} {ds : List D} (hfn : P.funcs[f]? = some fn) (hbody : fn.body.isSome = true) (hname : (fn.name == "runtime.NumGoroutine") = false) (h : PSpec P f (ds.map .d) (.d (.bool true))) (hr : vs.length = ds.length ∧ ∀ (i : Nat) (x : D) (v : Value), ds[i]? = some x → vs[i]? = some v → Rd W (Sof W) x v) :
    Calls P f vs.toArray W fun e W'=>e=.returned (.bool true)∧Below W.heap.size W W':=by
  have hsto:Sto W (Sof W) (fun _=>undef) (fun _=>none) 0:=⟨fun k hk=>hk,by simp,by simp,by simp,by simp,by simp,by simp⟩;have hd:=h (fun _=>none) 0 W (Sof W) (fun _=>undef) vs hsto (by simp [hr.1]) (fun i c v hc hv=>by
    rw [List.getElem?_map] at hc;obtain ⟨x,hx,rfl⟩:=Option.map_eq_some_iff.1 hc;exact .d _ _ (hr.2 i x v hx hv)) (lts_of fun i c hc=>by
      rw [List.getElem?_map] at hc;obtain ⟨x,hx,rfl⟩:=Option.map_eq_some_iff.1 hc;trivial)
  obtain ⟨b,hb⟩:=Option.isSome_iff_exists.1 hbody;have hcf:(callFunc f vs.toArray).run P W=.ok (.enter f vs.toArray) W:=by
    simp only [beq_eq_false_iff_ne,ne_eq] at hname;simp [callFunc,hfn,hb,hname]
  unfold Does at hd;rw [hcf] at hd;refine hd.mono ?_;rintro e W' ⟨v,rfl,r,o',nk',S',γ',⟨rfl,rfl,rfl⟩,hs,ht,hsr,hl⟩;refine ⟨?_,ht.os,ht.tape,ht.output,ht.size,fun k hk=>ht.kept k hk ?_⟩
  · cases hsr with
    | d _ _ hrd=>cases hrd;rfl
  · rintro ⟨t,y,hy,_⟩;cases hy
end
end Go.Proofs.YtpkcbdhjnnnkbaaGreat.Abs

namespace Go.Proofs.YtpkcbdhjnnnkbaaGreat.Abs
open Go
section
variable {H:Type} {enc:TypeId×Value→H} {w:World} {base fuel:Nat} {spare:Nat→Bool} {held:Bool} {cs:List Value} {x:DataW H×List MemPlace}
theorem cells_of {P:Program} {t:TypeId} {i:TI} (h:TOk P t i):P.cellsOf t=i.sz:=by
 have:=h.s;unfold Program.cellsOf;cases hq:P.info? t with
 | none=>rw [hq] at this;cases this
 | some q=>rw [hq] at this;simp at this;simp [this.1]
def AStr (s:Str) (d:DataW H):Prop:=d=.lit (.string s)
def AVal (v:Val) (d:DataW H):Prop:=rngV v∧szV v≤Rows.uptoBulk d
def ADlt (v:Dlt) (d:DataW H):Prop:=rngV v.value∧szV v.value+szN v.path≤Rows.uptoBulk d
theorem all2_cons {α:Type} {A:α→DataW H→Prop} {a:α} {l:List α} {es:List (DataW H)} (h:All2 A (a :: l) es):∃ y ys,es=y :: ys∧A a y∧All2 A l ys:=by
 obtain ⟨h1,h2⟩:=h;cases es with
 | nil=>simp at h1
 | cons y ys=>exact ⟨y,ys,rfl,h2 0 a y rfl rfl,by simpa using h1,fun i b z hb hz=>h2 (i+1) b z (by simpa using hb) (by simpa using hz)⟩
theorem szN_bulk:∀ {l:List Str} {es:List (DataW H)},All2 AStr l es→szN l≤Rows.uptoBulkAll es
 | [],es,_=>by simp [szN]
 | s :: l,es,h=>by
  obtain ⟨y,ys,rfl,h1,h2⟩:=all2_cons h;have:=szN_bulk h2;unfold AStr at h1;subst h1;simp only [szN,Rows.uptoBulkAll,Rows.uptoBulk];omega
theorem szVs_bulk:∀ {l:List Val} {es:List (DataW H)},All2 AVal l es→rngVs l∧szVs l≤Rows.uptoBulkAll es
 | [],es,_=>by simp [szVs,rngVs]
 | s :: l,es,h=>by
  obtain ⟨y,ys,rfl,h1,h2⟩:=all2_cons h;have:=szVs_bulk h2;simp only [szVs,rngVs,Rows.uptoBulkAll];exact ⟨⟨h1.1,this.1⟩,by have:=h1.2;omega⟩
theorem bulk_sl {α:Type} {A:α→DataW H→Prop} {l:List α} {d:DataW H} {n:Nat} (h:SlD A l d) (h0:l=[]→n=0) (h1:∀ es,All2 A l es→n≤Rows.uptoBulkAll es):n+1≤Rows.uptoBulk d:=by
 rcases h with ⟨rfl,h⟩ | ⟨es,sp,rfl,h⟩
 ·have:=h0 h;simp [Rows.uptoBulk,this]
 ·have:=h1 es h;simp only [Rows.uptoBulk];omega
theorem one_le (d:DataW H):1≤Rows.uptoBulk d:=by
 cases d with
 | lit l=>cases l <;> simp [Rows.uptoBulk]
 | nil=>simp [Rows.uptoBulk]
 | ptr d=>simp [Rows.uptoBulk]
 | slice elems spare=>simp [Rows.uptoBulk]
 | agg parts=>simp [Rows.uptoBulk]
 | iface t d=>simp [Rows.uptoBulk]
 | map entries=>simp [Rows.uptoBulk]
 | held h=>simp [Rows.uptoBulk]
theorem open_strs (h:DataW.trod enc Tryz.prog w base spare held fuel 22 cs=some x):∃ l:List Str,RdC w [.sl 1 (l.map .str)] cs∧SlD AStr l x.1:=
 rd_slice (z:=1) D.str AStr ((tabOk 22 _ th22).slice rfl) (cells_of (tabOk 9 _ th9)) (by decide) (fun _=>rfl) (fun _=>trivial) h fun n cs x _ h=>by
  obtain ⟨s,h1,h2⟩:=rd_str ((tabOk 9 _ th9).str rfl) h;exact ⟨s,h1,h2⟩
theorem rngVs_mem {l:List Val} (h:rngVs l):∀ v∈l,rngV v:=by
 induction l with
 | nil=>simp
 | cons a l ih=>
  simp only [rngVs] at h;intro v hv;rcases List.mem_cons.1 hv with rfl | hv
  ·exact h.1
  ·exact ih h.2 v hv
theorem open_val:∀ (fuel:Nat) (cs:List Value) (x:DataW H×List MemPlace),DataW.trod enc Tryz.prog w base spare held fuel 27 cs=some x→∃ v:Val,RdC w (valCells v) cs∧AVal v x.1:=by
 intro fuel
 induction fuel using Nat.strongRecOn with
 | _ fuel ih=>
  intro cs x h;obtain ⟨ys,n,hn,hx,hl,hyl,hf⟩:=rd_struct (tabOk 27 _ th27) rfl h
  match ys,hyl with
  | [y0,y1,y2,y3,y4],_=>
   have c1:=cells_of (tabOk 3 _ th3);have c9:=cells_of (tabOk 9 _ th9);have c25:=cells_of (tabOk 25 _ th25);have c22:=cells_of (tabOk 22 _ th22);have c27:=cells_of (tabOk 27 _ th27);have f0:=hf 0 (0,3) rfl;have f1:=hf 1 (1,3) rfl;have f2:=hf 2 (2,9) rfl;have f3:=hf 3 (3,25) rfl;have f4:=hf 4 (4,22) rfl;rw [c1] at f0 f1;rw [c9] at f2;rw [c25] at f3;rw [c22] at f4;rw [c27] at hl;obtain ⟨k,k1,k2,k3⟩:=rd_int ((tabOk 3 _ th3).int rfl) (x:=y0) f0;obtain ⟨i,i1,i2,i3⟩:=rd_int ((tabOk 3 _ th3).int rfl) (x:=y1) f1;obtain ⟨s,s1,s2⟩:=rd_str ((tabOk 9 _ th9).str rfl) (x:=y2) f2;obtain ⟨vs,v1,v2⟩:=rd_slice (z:=5) encV AVal ((tabOk 25 _ th25).slice rfl) c27 (by decide) (fun a=>by rw [encV_eq];rfl) (fun a=>by rw [encV_eq];rfl) (x:=y3) f3 fun m cs x hm h=>by
    obtain ⟨v,h1,h2⟩:=ih m (by omega) cs x h;exact ⟨v,by rw [encV_eq];exact h1,h2⟩
   obtain ⟨ns,n1,n2⟩:=open_strs (x:=y4) f4;refine ⟨.mk k i s vs ns,?_,?_⟩
   ·have:=rdC_cat (cs:=cs) (o:=0) (n:=1) k1 rfl (rdC_cat (n:=1) i1 rfl (rdC_cat (n:=1) s1 rfl (rdC_cat (n:=1) v1 rfl (rdC_cat (n:=1) n1 rfl (rdC_nil hl)))));simpa [valCells,Val.kind,Val.int,Val.text,Val.items,Val.names,encVs_map] using this
   ·have b3:rngVs vs∧szVs vs+1≤Rows.uptoBulk y3.1:=by
     refine ⟨?_,bulk_sl v2 (fun h=>by rw [h];rfl) fun es h=>(szVs_bulk h).2⟩;rcases v2 with ⟨_,rfl⟩ | ⟨es,sp,_,h⟩
     ·trivial
     ·exact (szVs_bulk h).1
    have b4:=bulk_sl n2 (n:=szN ns) (fun h=>by rw [h];rfl) fun es h=>szN_bulk h;refine ⟨⟨wf_i64 i3,b3.1⟩,?_⟩;rw [hx];simp only [List.map_cons,List.map_nil,Rows.uptoBulk,Rows.uptoBulkAll,k2,i2,s2,szV];omega
theorem open_dlt (h:DataW.trod enc Tryz.prog w base spare held fuel 83 cs=some x):∃ d:Dlt,RdC w (encD d).cl cs∧ADlt d x.1:=by
 obtain ⟨ys,n,hn,hx,hl,hyl,hf⟩:=rd_struct (tabOk 83 _ th83) rfl h
 match ys,hyl with
 | [y0,y1,y2,y3],_=>
  have f0:=hf 0 (0,3) rfl;have f1:=hf 1 (1,22) rfl;have f2:=hf 2 (2,27) rfl;have f3:=hf 3 (7,3) rfl;rw [cells_of (tabOk 3 _ th3)] at f0 f3;rw [cells_of (tabOk 22 _ th22)] at f1;rw [cells_of (tabOk 27 _ th27)] at f2;rw [cells_of (tabOk 83 _ th83)] at hl;obtain ⟨k,k1,k2,k3⟩:=rd_int ((tabOk 3 _ th3).int rfl) (x:=y0) f0;obtain ⟨p,p1,p2⟩:=open_strs (x:=y1) f1;obtain ⟨v,v1,v2⟩:=open_val n _ y2 f2;obtain ⟨m,m1,m2,m3⟩:=rd_int ((tabOk 3 _ th3).int rfl) (x:=y3) f3;refine ⟨⟨k,p,v,m⟩,?_,v2.1,?_⟩
  ·have:=rdC_cat (cs:=cs) (o:=0) (n:=1) k1 rfl (rdC_cat (n:=1) p1 rfl (rdC_cat (n:=5) v1 rfl (rdC_cat (n:=1) m1 rfl (rdC_nil hl))));simpa [encD,D.cl,valCells] using this
  ·have b1:=bulk_sl p2 (n:=szN p) (fun h=>by rw [h];rfl) fun es h=>szN_bulk h;have b2:=v2.2;rw [hx];simp only [List.map_cons,List.map_nil,Rows.uptoBulk,Rows.uptoBulkAll,k2,m2];omega
theorem open_dlts (h:DataW.trod enc Tryz.prog w base spare held fuel 28 cs=some x):∃ l:List Dlt,RdC w [.sl 8 (l.map encD)] cs∧SlD ADlt l x.1:=
 rd_slice (z:=8) encD ADlt ((tabOk 28 _ th28).slice rfl) (cells_of (tabOk 83 _ th83)) (by decide) (fun _=>rfl) (fun _=>rfl) h fun n cs x _ h=>open_dlt h
def szDs:List Dlt→Nat
 | []=>0
 | d :: r=>szV d.value+szN d.path+szDs r
theorem szDs_bulk:∀ {l:List Dlt} {es:List (DataW H)},All2 ADlt l es→szDs l≤Rows.uptoBulkAll es∧∀ d∈l,rngV d.value
 | [],es,_=>by simp [szDs]
 | s :: l,es,h=>by
  obtain ⟨y,ys,rfl,h1,h2⟩:=all2_cons h;have:=szDs_bulk h2;simp only [szDs,Rows.uptoBulkAll];refine ⟨by have:=h1.2;omega,fun d hd=>?_⟩;rcases List.mem_cons.1 hd with rfl | hd
  ·exact h1.1
  ·exact this.2 d hd
theorem szDs_mem {l:List Dlt} {d:Dlt} (h:d∈l):szV d.value+szN d.path≤szDs l:=by
 induction l with
 | nil=>cases h
 | cons a l ih=>
  simp only [szDs];rcases List.mem_cons.1 h with rfl | h
  ·omega
  ·have:=ih h;omega
theorem dlts_all {l:List Dlt} {d:DataW H} (h:SlD ADlt l d):szDs l+1≤Rows.uptoBulk d∧∀ x∈l,rngV x.value:=by
 refine ⟨bulk_sl h (fun h=>by rw [h];rfl) fun es h=>(szDs_bulk h).1,?_⟩;rcases h with ⟨_,rfl⟩ | ⟨es,sp,_,h⟩
 ·simp
 ·exact (szDs_bulk h).2
def I64 (n:Int):Prop:=-9223372036854775808≤n∧n≤9223372036854775807
structure AEtr (e:Etr) (d:DataW H):Prop where
 rt:I64 e.term
 rk:I64 e.kind
 rs:I64 e.session
 rn:I64 e.number
 ri:rngV e.id
 rd:rngV e.doc
 rl:∀ x∈e.deltas,rngV x.value
 sz:szV e.id+szV e.doc+szDs e.deltas+e.coll.length+e.to.length+1≤Rows.uptoBulk d
structure AFlt (f:Flt) (d:DataW H):Prop where
 rk:I64 f.kinds
 sz:f.coll.length+szN f.path≤Rows.uptoBulk d
end
theorem open_bytes {H:Type} {enc:TypeId×Value→H} {w:World} {base fuel:Nat} {spare:Nat→Bool} {held:Bool} {cs:List Value} {x:DataW H×List MemPlace} (h:DataW.trod enc Tryz.prog w base spare held fuel 52 cs=some x):∃ b:List UInt8,RdC w [.sl 1 (b.map encB)] cs∧SlD (fun _ _=>True) b x.1:=
 rd_slice (z:=1) encB (fun _ _=>True) ((tabOk 52 _ th52).slice rfl) (cells_of (tabOk 5 _ th5)) (by decide) (fun _=>rfl) (fun _=>trivial) h fun n cs x _ h=>by
  obtain ⟨k,k1,k2,k3⟩:=rd_int ((tabOk 5 _ th5).int rfl) h;have hk:=wf_u8 k3;refine ⟨UInt8.ofNat k.toNat,?_,trivial⟩;have he:encB (UInt8.ofNat k.toNat)=.int .u8 k:=by
   have:(UInt8.ofNat k.toNat).toNat=k.toNat:=by simp [UInt8.toNat_ofNat'];omega
   simp only [encB,this];congr 1;omega
  rw [he];exact k1
end Go.Proofs.YtpkcbdhjnnnkbaaGreat.Abs



namespace Go.Proofs.YtpkcbdhjnnnkbaaGreat.Abs
open Go
def WSpec (P:Program) (f:FuncId) (args:SV→List SV) (e z:Nat) (xs xs':List D):Prop:=
 ∀ (o:Nat→Option AO) (nk:Nat) (x:SV) (q:Option Nat),dstOf o e z x=some (q,xs)→Spec P f (args x) o nk fun r o' nk'=>r=.row nk∧o'=upd (killo o q) nk (some (.row e z xs'))∧nk'=nk+1
theorem wk_newK {o:Nat→Option AO} {nk:Nat} {x:AO} (hx:∀ m,x.lt m) {o':Nat→Option AO} {q:Nat} (h1:nk≤q) (h3:o' q=some x) (h4:∀ t y,o t=some y→o' t=some y)
    (hlt:∀ t y,o t=some y→t < nk∧y.lt nk) (hr:∀ τ,x.ren τ=x) (hid:∀ t y,o t=some y→∀ τ:Nat→Nat,(∀ u,u < nk→τ u=u)→y.ren τ=y):Wko nk (fun t=>if t=nk then q else t) o' (upd o nk (some x)) (nk+1):=by
  refine ⟨by omega,fun t y hy=>?_,fun t t' y y' hy hy' e=>?_,fun t y ht _=>if_neg (by omega)⟩
  · unfold upd at hy;split at hy
    · rename_i he;subst he;injection hy with hy;subst hy;exact ⟨by omega,by simp only [if_true,h3,hr],hx _⟩
    · rename_i hne;obtain ⟨h5,h6⟩:=hlt t y hy;refine ⟨by omega,?_,?_⟩
      · rw [if_neg hne,h4 t y hy,hid t y hy _ fun u hu=>if_neg (by omega)]
      · cases y with
        | box cs=>exact SV.lts_mono (by omega) h6
        | row=>trivial
        | raw=>trivial
  · have key:∀ t y,upd o nk (some x) t=some y→t=nk∨t < nk:=fun t y hy=>by
      unfold upd at hy;split at hy
      · rename_i he;exact .inl he
      · exact .inr (hlt t y hy).1
    have k1:=key t y hy;have k2:=key t' y' hy';by_cases ht:t=nk
    · by_cases ht':t'=nk
      · rw [ht,ht']
      · rw [if_pos ht,if_neg ht'] at e;omega
    · by_cases ht':t'=nk
      · rw [if_neg ht,if_pos ht'] at e;omega
      · rw [if_neg ht,if_neg ht'] at e;exact e
theorem Spec.newRowK {P:Program} {f:FuncId} {args:List SV} {o:Nat→Option AO} {nk:Nat} {q:Option Nat} {e z:Nat} {xs:List D}
    (h:Spec P f args o nk fun r o' nk'=>∃ p,r=.row p∧nk≤p∧p < nk'∧o' p=some (.row e z xs)∧∀ t,t < nk∧q≠some t→o' t=o t) :
    Spec P f args o nk fun r o' nk'=>r=.row nk∧o'=upd (killo o q) nk (some (.row e z xs))∧nk'=nk+1:=by
  intro w S γ vs h1 h2 h3 h4;refine (h w S γ vs h1 h2 h3 h4).mono ?_;rintro v w' ⟨r,o',nk',S',γ',⟨p,rfl,k1,k2,k3,k4⟩,hs,ht,hr,hl⟩;have hlt:∀ t y,killo o q t=some y→t < nk∧y.lt nk:=fun t y hy=>by
    have hy:=(killo_some hy).1;refine ⟨h1.o_lt t y hy,?_⟩;cases y with
    | box cs=>exact (h1.box t cs hy).2
    | row=>trivial
    | raw=>trivial
  have hid:∀ t y,killo o q t=some y→∀ τ:Nat→Nat,(∀ u,u < nk→τ u=u)→y.ren τ=y:=fun t y hy τ hτ=>by
    have hy:=(killo_some hy).1;cases y with
    | box cs=>simp only [AO.ren];rw [SV.rens_lt hτ (h1.box t cs hy).2]
    | row=>rfl
    | raw=>rfl
  have hk:Wko nk (fun t=>if t=nk then p else t) o' (upd (killo o q) nk (some (.row e z xs))) (nk+1):=wk_newK (x:=.row e z xs) (fun _=>trivial) k1 k3 (fun t y hy=>by rw [k4 t ⟨(hlt t y hy).1,(killo_some hy).2⟩];exact (killo_some hy).1) hlt (fun _=>rfl) hid;refine ⟨.row nk,_,_,S',γ' ∘ _,⟨rfl,rfl,rfl⟩,hk.sto hs,hk.tr ht,hr.of_ren (fun t x hx=>(hk.o t x hx).2.1) (.row nk) ?_,Nat.lt_succ_self _⟩;simp [SV.ren]
theorem dst_lt {w:World} {S:Nat→Prop} {γ:Nat→Value} {o:Nat→Option AO} {nk e z:Nat} {x:SV} {q:Option Nat} {xs:List D} (h:Sto w S γ o nk) (hd:dstOf o e z x=some (q,xs)):∀ t,q=some t→t < nk:=fun t ht=>by
 rcases dst_two hd with ⟨_,rfl,_⟩ | ⟨t2,_,rfl,h2⟩
 ·cases ht
 ·cases ht;exact h.o_lt _ _ h2
theorem WSpec.of {P:Program} {f:FuncId} {n:Nat} {ts:List Nat} {c:Code} {args:SV→List SV} {e z:Nat} {xs xs':List D} (hf:FnOk P f n ts c) (hn:∀ x,(args x).length≤n)
    (h:∀ o nk x q,dstOf o e z x=some (q,xs)→(∀ t,q=some t→t < nk)→WP P n nk c ⟨slots (args x),o,nk⟩ (retQ ts fun r o' nk'=>∃ p,r=.row p∧nk≤p∧p < nk'∧o' p=some (.row e z xs')∧∀ t,t < nk∧q≠some t→o' t=o t)):WSpec P f args e z xs xs':=
  fun o nk x q hd=>Spec.newRowK fun w S γ vs h1 h2 h3 h4=>Spec.of_body hf (hn x) (h o nk x q hd (dst_lt h1 hd)) w S γ vs h1 h2 h3 h4
theorem wrow_ok {ts:List Nat} {sl:Nat→SV} {o o0:Nat→Option AO} {nk nk0 p e z:Nat} {q:Option Nat} {xs xs':List D} (h1:resOf ts ⟨sl,o,nk⟩=.row p) (h2:nk0≤p) (h3:p < nk) (h5:o p=some (.row e z xs)) (h4:∀ t,t < nk0∧q≠some t→o t=o0 t) (hx:xs=xs') :
 retQ ts (fun r o' nk'=>∃ p,r=.row p∧nk0≤p∧p < nk'∧o' p=some (.row e z xs')∧∀ t,t < nk0∧q≠some t→o' t=o0 t) .ret ⟨sl,o,nk⟩:=⟨p,h1,h2,h3,hx ▸ h5,h4⟩
theorem rrow_okx {ts:List Nat} {sl:Nat→SV} {o o0:Nat→Option AO} {nk nk0 q e z:Nat} {xs xs':List D} (h1:resOf ts ⟨sl,o,nk⟩=.row q) (h2:nk0≤q) (h3:q < nk) (h5:o q=some (.row e z xs)) (h4:∀ t,t < nk0→o t=o0 t) (hx:xs=xs') :
 retQ ts (fun r o' nk'=>∃ q,r=.row q∧nk0≤q∧q < nk'∧o' q=some (.row e z xs')∧∀ t,t < nk0→o' t=o0 t) .ret ⟨sl,o,nk⟩:=⟨q,h1,h2,h3,hx ▸ h5,h4⟩
section
variable {P:Program} {Θ:Tab} {K:SV→(Nat→Option AO)→Nat→Prop} {sl:Nat→SV} {o:Nat→Option AO} {nk:Nat}
variable {x y:Operand} {t e:Nat}
theorem w_apDr {i j:TI} {l xs ys:List D} {q:Option Nat} {q2:Nat} (hy:ev sl y=.row q2) (hi:Θ t=some i) (hk:i.k=.slice e) (hj:Θ e=some j) (hz:j.z=some l) (hl:l.length=j.sz) (hpos:0 < j.sz) (hd:dstOf o e j.sz (ev sl x)=some (q,xs)) (ho2:o q2=some (.row e j.sz ys))
    (h63:xs.length+ys.length≤9223372036854775807) (hby:(xs.length+ys.length) * j.bys≤140737488355328) (h:K (.row nk) (upd (killo o q) nk (some (.row e j.sz (xs++ys)))) (nk+1)):vOp P Θ (.call { callee:=.builtin .append,args:=#[x,y],argTypes:=#[t,t] }) ⟨sl,o,nk⟩ K:=
  o_ap (q:=q) hi hk hj hz hl hpos hd (by rw [hy];intro b h;cases h) (by rw [hy];simp [srcOf,ho2]) h63 hby h
theorem g_apDr {i j:TI} {l xs ys:List D} {q:Option Nat} {q2:Nat} (hy:ev sl y=.row q2) (hi:Θ t=some i) (hk:i.k=.slice e) (hj:Θ e=some j) (hz:j.z=some l) (hl:l.length=j.sz) (hpos:0 < j.sz) (hd:dstOf o e j.sz (ev sl x)=some (q,xs)) (ho2:o q2=some (.row e j.sz ys))
    (h63:xs.length+ys.length≤9223372036854775807) (hby:(xs.length+ys.length) * j.bys≤140737488355328) (h:∀ o1,o1 nk=some (.row e j.sz (xs++ys))→(∀ t,t≠nk→some t≠q→o1 t=o t)→K (.row nk) o1 (nk+1)):vOp P Θ (.call { callee:=.builtin .append,args:=#[x,y],argTypes:=#[t,t] }) ⟨sl,o,nk⟩ K:=
  w_apDr hy hi hk hj hz hl hpos hd ho2 h63 hby (h _ (upd_same _ _ _) fun u hu hq=>(upd_ne _ _ hu).trans (killo_ne fun e=>hq e.symm))
theorem g_ncall {g:FuncId} {asx:Array Operand} {ts:Array Nat} {us:List SV} {cs:List SV} (hs:∀ o nk,Spec P g us o nk fun r' o' nk'=>r'=.loc nk 0∧o'=upd o nk (some (.box cs))∧nk'=nk+1) (ha:asx.toList.map (ev sl)=us)
    (h:∀ o1,o1 nk=some (.box cs)→(∀ t,t≠nk→o1 t=o t)→K (.loc nk 0) o1 (nk+1)):vOp P Θ (.call { callee:=.value (.func g),args:=asx,argTypes:=ts }) ⟨sl,o,nk⟩ K:=
  o_call (hs o nk) ha (by rintro r' o' nk' ⟨rfl,rfl,rfl⟩;exact h _ (upd_same _ _ _) fun u hu=>upd_ne _ _ hu)
theorem g_dcall {g:FuncId} {asx:Array Operand} {ts:Array Nat} {us:List SV} {e z:Nat} {xs:List D} (hs:DSpec P g us e z xs) (ha:asx.toList.map (ev sl)=us)
    (h:∀ c q o1 nk1,dstOf o1 e z c=some (q,xs)→(∀ t,q=some t→nk≤t∧t < nk1)→nk≤nk1→(∀ t,t < nk→o1 t=o t)→K c o1 nk1):vOp P Θ (.call { callee:=.value (.func g),args:=asx,argTypes:=ts }) ⟨sl,o,nk⟩ K:=
  o_call (hs o nk) ha (by
    rintro r o1 nk1 (⟨rfl,rfl,h1,h2⟩ | ⟨q,rfl,h1,h2,h3,h4⟩)
    · exact h _ none o1 nk1 rfl (fun t ht=>by cases ht) h1 h2
    · exact h _ (some q) o1 nk1 (dst_row h3) (fun t ht=>by cases ht;exact ⟨h1,h2⟩) (by omega) h4)
theorem w_wcall {g:FuncId} {asx:Array Operand} {ts:Array Nat} {args:SV→List SV} {x:SV} {q:Option Nat} {e z:Nat} {xs xs':List D} (hs:WSpec P g args e z xs xs') (hd:dstOf o e z x=some (q,xs)) (ha:asx.toList.map (ev sl)=args x)
    (h:K (.row nk) (upd (killo o q) nk (some (.row e z xs'))) (nk+1)):vOp P Θ (.call { callee:=.value (.func g),args:=asx,argTypes:=ts }) ⟨sl,o,nk⟩ K:=
  o_call (hs o nk x q hd) ha (by rintro r o1 nk1 ⟨rfl,rfl,rfl⟩;exact h)
theorem g_wcall {g:FuncId} {asx:Array Operand} {ts:Array Nat} {args:SV→List SV} {x:SV} {q:Option Nat} {e z:Nat} {xs xs':List D} (hs:WSpec P g args e z xs xs') (hd:dstOf o e z x=some (q,xs)) (ha:asx.toList.map (ev sl)=args x)
    (h:∀ o1,o1 nk=some (.row e z xs')→(∀ t,t≠nk→some t≠q→o1 t=o t)→K (.row nk) o1 (nk+1)):vOp P Θ (.call { callee:=.value (.func g),args:=asx,argTypes:=ts }) ⟨sl,o,nk⟩ K:=
  w_wcall hs hd ha (h _ (upd_same _ _ _) fun t ht hq=>(upd_ne _ _ ht).trans (killo_ne fun e=>hq e.symm))
theorem g_wcallR {g:FuncId} {asx:Array Operand} {ts:Array Nat} {args:SV→List SV} {q:Nat} {e z:Nat} {xs xs':List D} (hs:WSpec P g args e z xs xs') (hd:o q=some (.row e z xs)) (ha:asx.toList.map (ev sl)=args (.row q))
    (h:∀ o1,o1 nk=some (.row e z xs')→(∀ t,t≠nk→t≠q→o1 t=o t)→K (.row nk) o1 (nk+1)):vOp P Θ (.call { callee:=.value (.func g),args:=asx,argTypes:=ts }) ⟨sl,o,nk⟩ K:=
  g_wcall hs (dst_row hd) ha fun o1 h1 h2=>h o1 h1 fun t ht hq=>h2 t ht fun e=>hq (by injection e)
theorem w_wcallR {g:FuncId} {asx:Array Operand} {ts:Array Nat} {args:SV→List SV} {q:Nat} {e z:Nat} {xs xs':List D} (hs:WSpec P g args e z xs xs') (hd:o q=some (.row e z xs)) (ha:asx.toList.map (ev sl)=args (.row q))
    (h:K (.row nk) (upd (upd o q none) nk (some (.row e z xs'))) (nk+1)):vOp P Θ (.call { callee:=.value (.func g),args:=asx,argTypes:=ts }) ⟨sl,o,nk⟩ K:=
  w_wcall hs (dst_row hd) ha h
theorem g_rcallF {g:FuncId} {asx:Array Operand} {ts:Array Nat} {us us2:List SV} {q e1 z1:Nat} {e z:Nat} {xs xs':List D} (hd:o q=some (.row e1 z1 xs)) (hs:RSpec P g us2 e z xs') (ha:asx.toList.map (ev sl)=us) (hu:us.map (SV.frz q (.sl z1 xs))=us2)
    (h:∀ o1,o1 nk=some (.row e z xs')→(∀ t,t≠nk→t≠q→o1 t=o t)→K (.row nk) o1 (nk+1)):vOp P Θ (.call { callee:=.value (.func g),args:=asx,argTypes:=ts }) ⟨sl,o,nk⟩ K:=
  o_call (Spec.freeze hd (by rw [hu];exact hs.new _ nk)) ha (by rintro r' o' nk' ⟨rfl,rfl,rfl⟩;exact h _ (upd_same _ _ _) fun u hu hq=>by simp [upd,hu,hq])
end
theorem GC.tT {b:Bool} (h:b=true):GC (.d (.bool b)) true true:=.inl ⟨true,by rw [h],rfl⟩
section
variable {P:Program} {Θ:Tab} {ops:Array Oper} {K:St→Prop} {r:List Oper} {sl:Nat→SV} {d ty j lo m nk nk':Nat} {o o':Nat→Option AO} {op:Op} {pos:String} {af:Array Edge} {want c:Bool} {v:SV} {L:List Ob} {ks:List Kd}
end
theorem bytesD_append (a b:Str):bytesD (a++b)=bytesD a++bytesD b:=by simp [bytesD]
theorem grp_l (n:Int):(grp (u64 n)).length≤10:=grp_len 10 _ (by have:=u64_lt n;omega) (by omega)
theorem fn84:FnOk Tryz.prog 84 8 [2] (bodyOf Tryz.f84):=⟨Tryz.f84,Tryz.func84,by kernel_rfl,by decide,by kernel_rfl,by kernel_rfl⟩
theorem s84 (ys:List D) (hsz:ys.length≤70368744177664):DSpec Tryz.prog 84 [.d (.sl 1 ys)] 5 1 (ys):=by
 refine DSpec.of fn84 (by simp) fun o nk=>?_;refine wr ?_;refine ua ?_;refine u_nil ?_;refine WP.seq fun K2 hK2=>?_;refine wr ?_;refine um ?_;refine u_step (o_eqnil rfl rfl th52 rfl fun nb4 hnb4=>?_);refine u_nil ?_;refine wc (fun hc5=>?_) (fun hc5=>?_) <;> try simp only [Q0,Q1,Q2,Q3,Q4,Q5,Q6,Q7,Q8,ge_iff_le,gt_iff_lt] at hc5
 ·
  refine wr (ua (u_nil (WP.ret ?_)));refine dnil_ok rfl ?_ (by omega) (fun _ _=>rfl);exact hnb4 hc5
 ·
  refine WP.skip (hK2 _ (wr ?_));refine u_step (g_bs0 th52 rfl th5 rfl rfl (by decide) fun o8 hb8 hk8=>?_);refine um ?_;refine u_step (g_ap rfl rfl th52 rfl th5 rfl rfl (by decide) rfl hb8 (by simp only [List.length_nil];omega) (by simp only [List.length_nil];omega) fun o9 hb9 hk9=>?_);refine uS (u_nil (WP.ret ?_));refine drow_ok rfl (by omega) (by omega) ?_ (fun t ht=>(hk9 t (by omega) (by omega)).trans ((hk8 t (by omega))));simpa using hb9
theorem fn86:FnOk Tryz.prog 86 9 [2] (bodyOf Tryz.f86):=⟨Tryz.f86,Tryz.func86,by kernel_rfl,by decide,by kernel_rfl,by kernel_rfl⟩
theorem s86 (t:Str) (hs:t.length≤70368744177664):RSpec Tryz.prog 86 [.d (.str t)] 5 1 (bytesD (grp (u64 t.length)++t)):=by
 refine RSpec.of fn86 (by simp) fun o nk=>?_;refine wr (ua (u_nil (wr (um ?_))));refine u_step (o_len_str rfl th9 rfl ?_);refine uc th3 th126 ?_;refine u_step (o_rcall (s138 (u64 t.length) (by first | exact u64_lt _ | omega)) rfl fun q3 o3 nk3 hqa3 hqb3 hb3 hk3=>?_);refine um ?_;refine u_step (g_aps rfl rfl th52 rfl th5 rfl th9 rfl hb3 (by have:=grp_l t.length;rw [bytesD_length];simp at *;omega) fun o4 hb4 hk4=>?_);refine uS (u_nil (WP.ret ?_));refine rrow_okx rfl (by omega) (by omega) hb4 (fun t ht=>(hk4 t (by omega) (by omega)).trans ((hk3 t (by omega)))) ?_;simp [bytesD_append]
theorem fn85:FnOk Tryz.prog 85 15 [4] (bodyOf Tryz.f85):=⟨Tryz.f85,Tryz.func85,by kernel_rfl,by decide,by kernel_rfl,by kernel_rfl⟩
theorem s85 (ys:List D) (n:Int) (h1:0≤n) (h2:n≤4611686018427387904) (hl:ys.length≤70368744177664):WSpec Tryz.prog 85 (fun x=>[x,.d (.int .i64 n)]) 5 1 (ys) (ys++bytesD (grp (u64 n))):=by
 refine WSpec.of fn85 (fun _=>by simp) fun o nk x q hdw hqw=>?_;refine wr (ua (u_nil (wr (um ?_))));refine u_step (o_rdcall (s137 n h1 h2) rfl fun q3 o3 nk3 hqa3 hqb3 hb3 hk3=>?_);have hdw_3:=dst_keep hdw fun t e=>hk3 t (by have:=hqw t e;omega);refine u_step (o_moveV (v:=.tup _) rfl ?_);refine ue (ue (uS (ua (u_nil (wr ?_)))));refine u_step (o_moveV (v:=x) rfl ?_);refine uR ?_;refine u_step (g_apDr rfl th52 rfl th5 rfl rfl (by decide) hdw_3 hb3 (by have:=grp_l n;rw [bytesD_length];simp;omega) (by have:=grp_l n;rw [bytesD_length];simp;omega) fun o5 hb5 hk5=>?_);have hb3_5:=(hk5 _ (by omega) (fun e=>by have:=hqw _ e.symm;omega)).trans hb3;refine uS (u_nil (WP.ret ?_));refine wrow_ok rfl (by omega) (by omega) hb5 (fun t ht=>(hk5 t (by omega) (fun e=>ht.2 e.symm)).trans ((hk3 t (by omega)))) ?_;rfl
def b8 (k:Int):UInt8:=UInt8.ofNat (k % 256).toNat
theorem b8_wrap (k:Int):IntKind.u8.wrap k=((b8 k).toNat:Int):=by
 have h:IntKind.u8.wrap k=k % 256:=by
  exact wrap_u8 k
 rw [h];simp only [b8,UInt8.toNat_ofNat',Nat.reducePow];omega
def txtC (t:Str):Str:=grp (u64 t.length)++t
mutual
def codV:Val→Str
 | .mk k i t xs ns=>b8 k :: (if k=1 then [] else if k=2 then [b8 i] else if k=3 then grp (zigN i) else if k=4∨k=5 then txtC t else grp (u64 xs.length)++codVs (decide (k=7)) xs ns)
def codVs (doc:Bool):List Val→List Str→Str
 | [],_=>[]
 | x :: xs,ns=>(if doc=true then txtC (ns.headD []) else [])++codV x++codVs doc xs ns.tail
end
theorem codVs_snoc (doc:Bool):∀ {xs:List Val} {ns:List Str} {i:Nat} (h:i < xs.length),codVs doc (xs.take (i+1)) ns=codVs doc (xs.take i) ns++(if doc=true then txtC (ns.getD i []) else [])++codV (xs[i]'h)
 | x :: xs,ns,0,_=>by simp [codVs];cases ns <;> rfl
 | x :: xs,ns,i+1,h=>by
  have:=codVs_snoc doc (xs:=xs) (ns:=ns.tail) (i:=i) (by simpa using h);simp only [List.take_succ_cons,codVs,this,List.getElem_cons_succ,List.append_assoc];congr 4;cases ns <;> simp
theorem bytesD_one (k:Int):[D.int .u8 (IntKind.u8.wrap k)]=bytesD [b8 k]:=by rw [b8_wrap];rfl
theorem txtC_len (t:Str):(txtC t).length=textN t:=by simp [txtC,textN]
def accC (k:Int) (xs:List Val) (ns:List Str) (i:Nat):Str:=b8 k :: (grp (u64 xs.length)++codVs (decide (k=7)) (xs.take i) ns)
theorem accC_a {k:Int} {xs:List Val} {ns:List Str} {i:Nat} (h:i < xs.length) (h7:¬ k=7):accC k xs ns (i+1)=accC k xs ns i++codV (xs[i]'h):=by
 simp [accC,codVs_snoc _ h,h7]
theorem accC_b {k:Int} {xs:List Val} {ns:List Str} {i:Nat} (h:i < xs.length) (hn:i < ns.length) (h7:k=7):accC k xs ns (i+1)=accC k xs ns i++txtC (ns[i]'hn)++codV (xs[i]'h):=by
 simp [accC,codVs_snoc _ h,h7,hn]
theorem accC_end {k i:Int} {t:Str} {xs:List Val} {ns:List Str} (h1:¬ k=1) (h2:¬ k=2) (h3:¬ k=3) (h4:¬ (k=4∨k=5)):accC k xs ns xs.length=codV (.mk k i t xs ns):=by
 simp only [accC,codV,if_neg h1,if_neg h2,if_neg h3,if_neg h4,List.take_length]
theorem codV_lenA (m:Nat):∀ v,SizeOf.sizeOf v < m→mayV v=true→(codV v).length=sizeV v:=by
 induction m with
 | zero=>intros;omega
 | succ m ih=>
  rintro ⟨k,i,t,xs,ns⟩ hv hm;by_cases h1:k=1
  ·subst h1;simp [codV,sizeV]
  by_cases h2:k=2
  ·subst h2;simp [codV,sizeV]
  by_cases h3:k=3
  ·subst h3;simp [codV,sizeV];omega
  by_cases h4:k=4∨k=5
  ·simp only [codV,sizeV,if_neg h1,if_neg h2,if_neg h3,if_pos h4,List.length_cons,txtC_len];omega
  have hl:∀ j,j≤xs.length→(accC k xs ns j).length=accS k xs ns j:=fun j=>by
   induction j with
   | zero=>intro _;simp only [accC,accS,List.take_zero,codVs,sizesV,List.append_nil,List.length_cons,namesN];rw [if_pos (by simp [mayV,kindOk,h1,h2,h3,h4] at hm;by_cases h6:k=6;exact .inl h6;by_cases h7:k=7;exact .inr h7;simp [h6,h7] at hm)];simp [cntN];omega
   | succ j ihj=>
    intro hj;have e:=ih _ (items_lt' (j:=j) (by omega) hv) (may_items hm (by omega));by_cases h7:k=7
    ·have hn:ns.length=xs.length:=by subst h7;exact may7 hm
     rw [accC_b (by omega) (by omega) h7,← accS_b (by omega) (by omega) h7,List.length_append,List.length_append,ihj (by omega),e,txtC_len];omega
    ·rw [accC_a (by omega) h7,← accS_a (by omega) h7,List.length_append,ihj (by omega),e]
  rw [← accC_end h1 h2 h3 h4,hl _ (Nat.le_refl _),accS_end hm h2 h3 h4]
theorem codV_len {v:Val} (h:mayV v=true):(codV v).length=sizeV v:=codV_lenA _ v (Nat.lt_succ_self _) h
theorem accC_len {k i:Int} {t:Str} {xs:List Val} {ns:List Str} (hm:mayV (.mk k i t xs ns)=true) (h6:k=6∨k=7):∀ j,j≤xs.length→(accC k xs ns j).length=accS k xs ns j:=fun j=>by
 induction j with
 | zero=>intro _;simp only [accC,accS,List.take_zero,codVs,sizesV,List.append_nil,List.length_cons,namesN];rw [if_pos h6];simp [cntN];omega
 | succ j ihj=>
  intro hj;have e:=codV_len (may_items hm (j:=j) (by omega));by_cases h7:k=7
  ·have hn:ns.length=xs.length:=by subst h7;exact may7 hm
   rw [accC_b (by omega) (by omega) h7,← accS_b (by omega) (by omega) h7,List.length_append,List.length_append,ihj (by omega),e,txtC_len];omega
  ·rw [accC_a (by omega) h7,← accS_a (by omega) h7,List.length_append,ihj (by omega),e]
theorem may67 {k i:Int} {t:Str} {xs:List Val} {ns:List Str} (hm:mayV (.mk k i t xs ns)=true) (h1:¬ k=1) (h2:¬ k=2) (h3:¬ k=3) (h4:¬ (k=4∨k=5)):k=6∨k=7:=by
 simp [mayV,kindOk,h1,h2,h3,h4] at hm;by_cases h6:k=6
 ·exact .inl h6
 by_cases h7:k=7
 ·exact .inr h7
 simp [h6,h7] at hm
theorem szVs_room:∀ {xs:List Val} {i:Nat} (h:i < xs.length),szVs (xs.take i)+szV (xs[i]'h)≤szVs xs
 | x :: xs,0,_=>by simp [szVs]
 | x :: xs,i+1,h=>by
  have:=szVs_room (xs:=xs) (i:=i) (by simpa using h);simp only [List.take_succ_cons,szVs,List.getElem_cons_succ];omega
theorem szN_room:∀ {xs:List Str} {i:Nat} (h:i < xs.length),szN (xs.take i)+(1+(xs[i]'h).length)≤szN xs
 | x :: xs,0,_=>by simp [szN];omega
 | x :: xs,i+1,h=>by
  have:=szN_room (xs:=xs) (i:=i) (by simpa using h);simp only [List.take_succ_cons,szN,List.getElem_cons_succ];omega
theorem roomA {k:Int} {xs:List Val} {ns:List Str} {i:Nat} (h:i < xs.length) (h7:¬ k=7):accS k xs ns i+12 * szV (xs[i]'h)≤12 * (1+szVs xs):=by
 have h1:=szVs_room h;have h2:=sizesV_le (xs.take i);have h3:=cntN_le xs.length;simp only [accS,if_neg h7];split <;> omega
theorem roomB {k:Int} {xs:List Val} {ns:List Str} {i:Nat} (h:i < xs.length) (hn:i < ns.length):accS k xs ns i+textN (ns[i]'hn)+12 * szV (xs[i]'h)≤12 * (1+szVs xs+szN ns):=by
 have h1:=szVs_room h;have h2:=sizesV_le (xs.take i);have h3:=cntN_le xs.length;have h4:=szN_room hn;have h5:=namesN_le (ns.take i);have h6:=textN_le (ns[i]'hn);simp only [accS];split <;> split <;> omega
theorem code0 {k:Int} {xs:List Val} {ns:List Str} {ys:List D} {n:Nat} (h:n=xs.length):ys++[D.int .u8 (IntKind.u8.wrap k)]++bytesD (grp (u64 (n:Int)))=ys++bytesD (accC k xs ns 0):=by
 subst h;rw [bytesD_one,List.append_assoc,← bytesD_append];simp [accC,codVs]
theorem codeA {k:Int} {xs:List Val} {ns:List Str} {ys:List D} {i:Nat} (h:i < xs.length) (h7:¬ k=7):ys++bytesD (accC k xs ns i)++bytesD (codV (xs[i]'h))=ys++bytesD (accC k xs ns (i+1)):=by
 rw [accC_a h h7,bytesD_append,List.append_assoc]
theorem codeB {k:Int} {xs:List Val} {ns:List Str} {ys:List D} {i:Nat} (h:i < xs.length) (hn:i < ns.length) (h7:k=7):ys++bytesD (accC k xs ns i)++bytesD (grp (u64 (ns[i]'hn).length)++ns[i]'hn)++bytesD (codV (xs[i]'h))=ys++bytesD (accC k xs ns (i+1)):=by
 rw [accC_b h hn h7,bytesD_append,bytesD_append];simp only [txtC,List.append_assoc,bytesD_append]
theorem cod1 {k i:Int} {t:Str} {xs:List Val} {ns:List Str} {ys:List D} (h:k=1):ys++[D.int .u8 (IntKind.u8.wrap k)]=ys++bytesD (codV (.mk k i t xs ns)):=by
 rw [bytesD_one];simp only [codV,if_pos h]
theorem cod2 {k i:Int} {t:Str} {xs:List Val} {ns:List Str} {ys:List D} (h1:¬ k=1) (h:k=2):ys++[D.int .u8 (IntKind.u8.wrap k)]++[D.int .u8 (IntKind.u8.wrap i)]=ys++bytesD (codV (.mk k i t xs ns)):=by
 rw [bytesD_one,bytesD_one,List.append_assoc,← bytesD_append];simp only [codV,if_neg h1,if_pos h];rfl
theorem cod3 {k i:Int} {t:Str} {xs:List Val} {ns:List Str} {ys:List D} (h1:¬ k=1) (h2:¬ k=2) (h:k=3):ys++[D.int .u8 (IntKind.u8.wrap k)]++bytesD (grp (zigN i))=ys++bytesD (codV (.mk k i t xs ns)):=by
 rw [bytesD_one,List.append_assoc,← bytesD_append];simp only [codV,if_neg h1,if_neg h2,if_pos h];rfl
theorem cod4 {k i:Int} {t:Str} {xs:List Val} {ns:List Str} {ys:List D} (h1:¬ k=1) (h2:¬ k=2) (h3:¬ k=3) (h:k=4∨k=5):ys++[D.int .u8 (IntKind.u8.wrap k)]++bytesD (grp (u64 t.length)++t)=ys++bytesD (codV (.mk k i t xs ns)):=by
 rw [bytesD_one,List.append_assoc,← bytesD_append];simp only [codV,if_neg h1,if_neg h2,if_neg h3,if_pos h];rfl
theorem wv {P:Program} {f:FuncId} {v:Val} {e z:Nat} {xs xs':List D} (h:WSpec P f (fun x=>[x,.d (encV v)]) e z xs xs'):WSpec P f (fun x=>[x,.d (.agg (valCells v))]) e z xs xs':=encV_eq v ▸ h
theorem may7k {k i:Int} {t:Str} {xs:List Val} {ns:List Str} (h:mayV (.mk k i t xs ns)=true) (hk:k=7):ns.length=xs.length:=by subst hk;exact may7 h
theorem fn139:FnOk Tryz.prog 139 77 [4] (bodyOf Tryz.f139):=⟨Tryz.f139,Tryz.func139,by kernel_rfl,by decide,by kernel_rfl,by kernel_rfl⟩
theorem s139A (m:Nat):∀ (v:Val) (ys:List D),SizeOf.sizeOf v < m→mayV v=true→rngV v→szV v≤1099511627776→ys.length+12 * szV v≤70368744177664→WSpec Tryz.prog 139 (fun x=>[x,.d (encV v)]) 5 1 (ys) (ys++bytesD (codV v)):=by
 induction m with
 | zero=>intros;omega
 | succ m ih=>
  rintro ⟨kd,it,tx,xs,ns⟩ ys hv hmy hrg hsz hyl;have hsz2:1+tx.length+szVs xs+szN ns≤1099511627776:=hsz;have hyl2:ys.length+12 * (1+tx.length+szVs xs+szN ns)≤70368744177664:=hyl;have hxl:=szVs_len xs;have hnl:=szN_len ns;have hln:=encVs_length xs;have hc1:=cntN_le xs.length;have hz1:=zig_le it;have ht1:=textN_le tx;refine WSpec.of fn139 (fun _=>by simp) fun o nk x q hdw hqw=>?_;refine wr ?_;refine u_step (g_box rfl fun o2 hb2 hk2=>?_);have hdw_2:=dst_keep hdw fun t e=>hk2 t (by have:=hqw t e;omega);refine ua (u_nil (wr ?_));refine u_step (o_moveV (v:=x) rfl ?_);refine uf th27 th3 hb2 ?_;refine ul th3 hb2 ?_;refine uc th3 th5 ?_;refine u_step (o_bs rfl th52 rfl th5 rfl rfl (by decide) rfl (by decide) (by decide) ?_);refine u_step (g_apD2 rfl th52 rfl th5 rfl rfl (by decide) rfl hdw_2 (by simp;omega) (by simp;omega) fun o4 hb4 hk4=>?_);have hb2_4:=(hk4 _ (by omega) (fun e=>by have:=hqw _ e.symm;omega)).trans hb2;refine uS (u_nil (WP.seq fun K5 hK5=>?_));refine wr (uf th27 th3 hb2_4 ?_);refine ul th3 hb2_4 ?_;refine u_nil (WP.block (wr (ub (ua (u_nil ?_)))));refine wc (fun hc8=>?_) (fun hc8=>?_)
  ·
   simp at hc8;refine wr (uR (uS (u_nil (WP.ret ?_))));refine wrow_ok rfl (by omega) (by omega) hb4 (fun t ht=>(hk4 t (by omega) (fun e=>ht.2 e.symm)).trans ((hk2 t (by omega)))) ?_;exact cod1 hc8
  ·
   simp at hc8;refine wr (ub (ua (u_nil ?_)));refine wc (fun hc11=>?_) (fun hc11=>?_)
   ·
    simp at hc11;refine wr (uR (uf th27 th3 hb2_4 ?_));refine ul th3 hb2_4 ?_;refine uc th3 th5 ?_;refine u_step (o_bs rfl th52 rfl th5 rfl rfl (by decide) rfl (by decide) (by decide) ?_);refine u_step (g_ap rfl rfl th52 rfl th5 rfl rfl (by decide) rfl hb4 (by simp;omega) (by simp;omega) fun o13 hb13 hk13=>?_);have hb2_13:=(hk13 _ (by omega) (by omega)).trans hb2_4;refine uS (u_nil (WP.ret ?_));refine wrow_ok rfl (by omega) (by omega) hb13 (fun t ht=>(hk13 t (by omega) (by omega)).trans ((hk4 t (by omega) (fun e=>ht.2 e.symm)).trans ((hk2 t (by omega))))) ?_;exact cod2 (by omega) hc11
   ·
    simp at hc11;refine wr (ub (ua (u_nil ?_)));refine wc (fun hc15=>?_) (fun hc15=>?_)
    ·
     simp at hc15;refine wr (uR (uf th27 th3 hb2_4 ?_));refine ul th3 hb2_4 ?_;refine u_step (o_rcall (s169 it hrg.1.1 hrg.1.2) rfl fun q17 o17 nk17 hqa17 hqb17 hb17 hk17=>?_);have hb2_17:=(hk17 _ (by omega)).trans hb2_4;have hb4_17:=(hk17 _ (by omega)).trans hb4;refine u_step (g_apr rfl rfl th52 rfl th5 rfl rfl (by decide) hb4_17 hb17 (by rw [bytesD_length];simp;omega) (by rw [bytesD_length];simp;omega) fun o18 hb18 hk18=>?_);have hb2_18:=(hk18 _ (by omega) (by omega)).trans hb2_17;have hb17_18:=(hk18 _ (by omega) (by omega)).trans hb17;refine uS (u_nil (WP.ret ?_));refine wrow_ok rfl (by omega) (by omega) hb18 (fun t ht=>(hk18 t (by omega) (by omega)).trans ((hk17 t (by omega)).trans ((hk4 t (by omega) (fun e=>ht.2 e.symm)).trans ((hk2 t (by omega)))))) ?_;exact cod3 (by omega) (by omega) hc15
    ·
     simp at hc15;refine WP.seqJ ⟨al [(0,.row (nk+1)),(3,.loc nk 0),(16,.d (.int .i64 kd)),(35,.d (.bool (decide (kd=4∨kd=5))))],o4,((nk+1)+1)⟩ ?_ ?_
     ·
      refine wr (ub (ua (u_nil ?_)));refine wc (fun hc20=>?_) (fun hc20=>?_)
      ·
       simp at hc20;refine WP.skip ?_;refine Le.al ?_;simp only [List.forall_mem_cons];have hl2:=hc20;refine ⟨rfl,rfl,rfl,?_,by simp⟩;refine congrArg (fun z=>SV.d (.bool z)) ?_;rw [Bool.eq_iff_iff,decide_eq_true_iff];simp at hl2 ⊢;omega
      ·
       simp at hc20;refine WP.reg tabOk rfl ?_;refine ub (ua (u_nil ?_));refine Le.al ?_;simp only [List.forall_mem_cons];have hl2:=hc20;refine ⟨rfl,rfl,rfl,?_,by simp⟩;refine congrArg (fun z=>SV.d (.bool z)) ?_;rw [Bool.eq_iff_iff,decide_eq_true_iff];simp at hl2 ⊢;omega
     ·
      refine wc (fun hc21=>?_) (fun hc21=>?_)
      ·
       simp at hc21;refine wr (uR (uf th27 th9 hb2_4 ?_));refine ul th9 hb2_4 ?_;refine u_step (o_rcall (s86 tx (by omega)) rfl fun q23 o23 nk23 hqa23 hqb23 hb23 hk23=>?_);have hb2_23:=(hk23 _ (by omega)).trans hb2_4;have hb4_23:=(hk23 _ (by omega)).trans hb4;refine u_step (g_apr rfl rfl th52 rfl th5 rfl rfl (by decide) hb4_23 hb23 (by rw [bytesD_length];simp only [List.length_append,List.length_cons,List.length_nil,textN] at *;omega) (by rw [bytesD_length];simp only [List.length_append,List.length_cons,List.length_nil,textN] at *;omega) fun o24 hb24 hk24=>?_);have hb2_24:=(hk24 _ (by omega) (by omega)).trans hb2_23;have hb23_24:=(hk24 _ (by omega) (by omega)).trans hb23;refine uS (u_nil (WP.ret ?_));refine wrow_ok rfl (by omega) (by omega) hb24 (fun t ht=>(hk24 t (by omega) (by omega)).trans ((hk23 t (by omega)).trans ((hk4 t (by omega) (fun e=>ht.2 e.symm)).trans ((hk2 t (by omega)))))) ?_;exact cod4 (by omega) (by omega) (by omega) hc21
      ·
       simp at hc21;refine WP.skip (hK5 _ (wr (uf th27 th25 hb2_4 ?_)));refine ul th25 hb2_4 ?_;refine un th25 ?_;refine u_step (o_rdcall (s137 (encVs xs).length (by omega) (by omega)) rfl fun q26 o26 nk26 hqa26 hqb26 hb26 hk26=>?_);have hb2_26:=(hk26 _ (by omega)).trans hb2_4;have hb4_26:=(hk26 _ (by omega)).trans hb4;refine u_step (o_moveV (v:=.tup _) rfl ?_);refine ue (ue (uS (ua (u_nil (wr (uR (uR ?_)))))));refine u_step (g_apr rfl rfl th52 rfl th5 rfl rfl (by decide) hb4_26 hb26 (by have:=grp_l (encVs xs).length;rw [bytesD_length];simp;omega) (by have:=grp_l (encVs xs).length;rw [bytesD_length];simp;omega) fun o28 hb28 hk28=>?_);have hb2_28:=(hk28 _ (by omega) (by omega)).trans hb2_26;have hb26_28:=(hk28 _ (by omega) (by omega)).trans hb26;refine uS (u_nil (WP.seq fun K29 hK29=>?_));refine wr (uf th27 th25 hb2_28 ?_);refine ul th25 hb2_28 ?_;refine un th25 ?_;refine um (u_nil (WP.block ?_));refine WP.loopL (ι:=Nat×Nat×(Nat→Option AO)×Nat) (fun ⟨i,p,o2,nk2⟩=>⟨al [(0,.row p),(3,.loc nk 0),(54,.d (.sl 5 (encVs xs))),(55,.d (.int .i64 (encVs xs).length)),(56,.d (.int .i64 i))],o2,nk2⟩) (fun ⟨i,p,o2,nk2⟩=>i≤xs.length∧nk < p∧p < nk2∧o2 nk=some (.box (([.int .i64 kd,.int .i64 it,.str tx,.sl 5 (encVs xs),.sl 1 (ns.map .str)]:List D).map .d))∧o2 p=some (.row 5 1 (ys++bytesD (accC kd xs ns i)))∧(∀ t,t < nk∧q≠some t→o2 t=o t)) (fun ⟨i,p,o2,nk2⟩=>xs.length - i) (fun ⟨i,p,o2,nk2⟩ hA=>?_) ⟨0,nk26,o28,(nk26+1)⟩ ?_ ?_
       ·
        obtain ⟨hle,hnp,hpn,hob,hrw,hfr⟩:=hA;have h67:=may67 hmy (by omega) (by omega) (by omega) (by omega);refine wr (ub (u_nil (WP.seq fun K32 hK32=>?_)));refine wc (fun hc33=>?_) (fun hc33=>?_)
        ·
         simp at hc33;refine WP.skip (hK32 _ (WP.seq fun K34 hK34=>?_));refine WP.block (wr (um ?_))
         first | refine u_step (o_ia_map rfl rfl th25 rfl th27 rfl (by omega) ?_) | refine u_step (o_ia_vs rfl rfl th25 rfl th27 rfl (by omega) ?_)
         refine uL th27 ?_;refine u_step (g_alloc th27 rfl fun o36 hb36 hk36=>?_);have hob_36:=(hk36 _ (by omega)).trans hob;have hrw_36:=(hk36 _ (by omega)).trans hrw;refine ua ?_;refine u_step0 (g_sta rfl (congrArg SV.d (encV_eq _)) th27 rfl hb36 (by simp [valCells]) fun o37 hb37 hk37=>?_);have hob_37:=(hk37 _ (by omega)).trans hob_36;have hrw_37:=(hk37 _ (by omega)).trans hrw_36;refine u_nil (WP.seq fun K38 hK38=>?_);refine wr (uf th27 th3 hob_37 ?_);refine ul th3 hob_37 ?_;refine ub (u_nil ?_);refine wc (fun hc40=>?_) (fun hc40=>?_)
         ·
          simp at hc40;refine WP.reg tabOk rfl ?_;refine uR (uf th27 th22 hob_37 ?_);refine ul th22 hob_37 ?_;refine um ?_;have hr9:=may7k hmy hc40
          refine u_step (o_ia_map rfl rfl th22 rfl th9 rfl (by omega) ?_)
          refine uL th9 ?_;refine u_step (o_rcall (s86 ns[i] (by have:=szN_get (xs:=ns) (j:=i) (by omega);omega)) rfl fun q41 o41 nk41 hqa41 hqb41 hb41 hk41=>?_);have hob_41:=(hk41 _ (by omega)).trans hob_37;have hrw_41:=(hk41 _ (by omega)).trans hrw_37;have hb37_41:=(hk41 _ (by omega)).trans hb37;refine u_step (g_apr rfl rfl th52 rfl th5 rfl rfl (by decide) hrw_41 hb41 (by have hr0:=hr9;have hr2:=accC_len hmy h67 i (by omega);have hr1:=roomB (k:=kd) (xs:=xs) (ns:=ns) (i:=i) (by omega) (by omega);rw [bytesD_length];simp only [List.length_append,bytesD_length,textN] at *;omega) (by have hr0:=hr9;have hr2:=accC_len hmy h67 i (by omega);have hr1:=roomB (k:=kd) (xs:=xs) (ns:=ns) (i:=i) (by omega) (by omega);rw [bytesD_length];simp only [List.length_append,bytesD_length,textN] at *;omega) fun o42 hb42 hk42=>?_);have hob_42:=(hk42 _ (by omega) (by omega)).trans hob_41;have hb37_42:=(hk42 _ (by omega) (by omega)).trans hb37_41;have hb41_42:=(hk42 _ (by omega) (by omega)).trans hb41;refine uS (u_nil (hK38 _ (WP.reg tabOk rfl ?_)));refine uR (ug th27 hb37_42 ?_);refine u_step (g_wcallR (wv (v:=xs[i]) (ih xs[i] _ (by exact items_lt' (by omega) hv) (by exact may_items hmy (by omega)) (by exact rngVs_get hrg.2 (by omega)) (by have:=szVs_get (xs:=xs) (j:=i) (by omega);omega) (by first | (have hr1:=roomA (xs:=xs) (ns:=ns) (i:=i) (by omega) hc40;have hr2:=accC_len hmy h67 i (by omega);simp only [List.length_append,bytesD_length];omega) | (have hr0:=may7k hmy hc40;have hr1:=roomB (k:=kd) (xs:=xs) (ns:=ns) (i:=i) (by omega) (by omega);have hr2:=accC_len hmy h67 i (by omega);simp only [List.length_append,bytesD_length,textN] at *;omega)))) hb42 rfl fun o43 hb43 hk43=>?_);have hob_43:=(hk43 _ (by omega) (by omega)).trans hob_42;have hb37_43:=(hk43 _ (by omega) (by omega)).trans hb37_42;have hb41_43:=(hk43 _ (by omega) (by omega)).trans hb41_42;refine uS (u_nil (hK34 _ (WP.reg tabOk rfl ?_)));refine ub (um (u_nil ?_));refine ⟨⟨i+1,(nk41+1),o43,((nk41+1)+1)⟩,⟨by omega,by omega,by omega,hob_43,by first | exact (hb43).trans (congrArg (fun z=>some (AO.row 5 1 z)) (codeA (by omega) hc40)) | exact (hb43).trans (congrArg (fun z=>some (AO.row 5 1 z)) (codeB (by omega) (by have:=may7k hmy hc40;omega) hc40)),(fun t ht=>(hk43 t (by omega) (by omega)).trans ((hk42 t (by omega) (by omega)).trans ((hk41 t (by omega)).trans ((hk37 t (by omega)).trans ((hk36 t (by omega)).trans ((hfr t ht)))))))⟩,by simp only;omega,?_⟩;refine Le.al ?_;simp only [List.forall_mem_cons];exact ⟨rfl,rfl,rfl,rfl,cnt (by omega),by simp⟩
         ·
          simp at hc40;refine WP.skip (hK38 _ (WP.reg tabOk rfl ?_));refine uR (ug th27 hb37 ?_);refine u_step (g_wcallR (wv (v:=xs[i]) (ih xs[i] _ (by exact items_lt' (by omega) hv) (by exact may_items hmy (by omega)) (by exact rngVs_get hrg.2 (by omega)) (by have:=szVs_get (xs:=xs) (j:=i) (by omega);omega) (by first | (have hr1:=roomA (xs:=xs) (ns:=ns) (i:=i) (by omega) hc40;have hr2:=accC_len hmy h67 i (by omega);simp only [List.length_append,bytesD_length];omega) | (have hr0:=may7k hmy hc40;have hr1:=roomB (k:=kd) (xs:=xs) (ns:=ns) (i:=i) (by omega) (by omega);have hr2:=accC_len hmy h67 i (by omega);simp only [List.length_append,bytesD_length,textN] at *;omega)))) hrw_37 rfl fun o44 hb44 hk44=>?_);have hob_44:=(hk44 _ (by omega) (by omega)).trans hob_37;have hb37_44:=(hk44 _ (by omega) (by omega)).trans hb37;refine uS (u_nil (hK34 _ (WP.reg tabOk rfl ?_)));refine ub (um (u_nil ?_));refine ⟨⟨i+1,(nk2+1),o44,((nk2+1)+1)⟩,⟨by omega,by omega,by omega,hob_44,by first | exact (hb44).trans (congrArg (fun z=>some (AO.row 5 1 z)) (codeA (by omega) hc40)) | exact (hb44).trans (congrArg (fun z=>some (AO.row 5 1 z)) (codeB (by omega) (by have:=may7k hmy hc40;omega) hc40)),(fun t ht=>(hk44 t (by omega) (by omega)).trans ((hk37 t (by omega)).trans ((hk36 t (by omega)).trans ((hfr t ht)))))⟩,by simp only;omega,?_⟩;refine Le.al ?_;simp only [List.forall_mem_cons];exact ⟨rfl,rfl,rfl,rfl,cnt (by omega),by simp⟩
        ·
         simp at hc33;refine WP.exit ?_;refine hK29 _ (wr (uR (uS (u_nil (WP.ret ?_)))));refine wrow_ok rfl (by omega) (by omega) hrw (fun t ht=>(hfr t ht)) ?_;have hie:i=xs.length:=by omega
         rw [hie,accC_end (by omega) (by omega) (by omega) (by omega)]
       ·
        have hl0:(encVs xs).length=xs.length:=encVs_length xs;refine ⟨by omega,by omega,by omega,hb2_28,code0 hl0 ▸ hb28,(fun t ht=>(hk28 t (by omega) (by omega)).trans ((hk26 t (by omega)).trans ((hk4 t (by omega) (fun e=>ht.2 e.symm)).trans ((hk2 t (by omega))))))⟩
       ·
        refine Le.al ?_;simp only [List.forall_mem_cons];exact ⟨rfl,rfl,rfl,rfl,rfl,by simp⟩
theorem s139 (v:Val) (ys:List D) (hmy:mayV v=true) (hrg:rngV v) (hsz:szV v≤1099511627776) (hyl:ys.length+12 * szV v≤70368744177664):WSpec Tryz.prog 139 (fun x=>[x,.d (encV v)]) 5 1 (ys) (ys++bytesD (codV v)):=s139A _ v ys (Nat.lt_succ_self _) hmy hrg hsz hyl
theorem fn87:FnOk Tryz.prog 87 14 [4] (bodyOf Tryz.f87):=⟨Tryz.f87,Tryz.func87,by kernel_rfl,by decide,by kernel_rfl,by kernel_rfl⟩
theorem s87 (v:Val) (ys:List D) (hc:checkV v=0) (hrg:rngV v) (hsz:szV v≤1099511627776) (hyl:ys.length+12 * szV v≤70368744177664):RSpec Tryz.prog 87 [.d (.sl 1 ys),.d (encV v)] 5 1 (ys++bytesD (codV v)):=by
 obtain ⟨kd,it,tx,xs,ns⟩:=v;refine RSpec.of fn87 (by simp) fun o nk=>?_;refine wr ?_;refine u_step (g_box rfl fun o2 hb2 hk2=>?_);refine ua (u_nil (wr (um ?_)));refine u_step (g_dcall (s84 ys (by omega)) rfl fun c4 q4 o4 nk4 hd4 hq4 hn4 hk4=>?_);have hb2_4:=(hk4 _ (by omega)).trans hb2;refine u_step (o_assignV (v:=c4) rfl ?_);refine u_nil (WP.seq fun K5 hK5=>?_);refine wr (ug th27 hb2_4 ?_);refine u_step (o_pcall (s123 (.mk kd it tx xs ns) hrg hsz) rfl ?_);refine ub (u_nil ?_);refine wc (fun hc7=>?_) (fun hc7=>?_)
 ·
  simp at hc7;exact absurd hc hc7
 ·
  simp at hc7;refine WP.skip (hK5 _ (wr ?_));refine u_step (o_moveV (v:=c4) rfl ?_);refine ug th27 hb2_4 ?_;refine u_step (g_wcall (s139 (.mk kd it tx xs ns) ys (check_may hc) hrg hsz hyl) hd4 rfl fun o9 hb9 hk9=>?_);have hb2_9:=(hk9 _ (by omega) (fun e=>by have:=hq4 _ e.symm;omega)).trans hb2_4;refine uS (u_nil (WP.ret ?_));refine rrow_okx rfl (by omega) (by omega) hb9 (fun t ht=>(hk9 t (by omega) (fun e=>by have:=hq4 _ e.symm;omega)).trans ((hk4 t (by omega)).trans ((hk2 t (by omega))))) ?_;rfl
def codP (p:List Str):Str:=p.flatMap txtC
def codD1 (d:Dlt) (j:Nat):Str:=b8 d.kind :: (grp (u64 d.path.length)++codP (d.path.take j))
def codDv (d:Dlt):Str:=if d.kind=1 then codV d.value else if d.kind=3 then grp (u64 d.n) else []
def codD (d:Dlt):Str:=codD1 d d.path.length++codDv d
def accDs (l:List Dlt) (i:Nat):Str:=grp (u64 l.length)++(l.take i).flatMap codD
def codDs (l:List Dlt):Str:=grp (u64 l.length)++l.flatMap codD
theorem accDs_end {l:List Dlt} {i:Nat} (h:¬ i < l.length):accDs l i=codDs l:=by
 rw [accDs,codDs,List.take_of_length_le (by omega)]
theorem accDs_snoc {l:List Dlt} {i:Nat} (h:i < l.length):accDs l (i+1)=accDs l i++codD (l[i]'h):=by
 rw [accDs,accDs,List.take_succ_eq_append_getElem h,List.flatMap_append];simp
theorem codD1_snoc {d:Dlt} {j:Nat} (h:j < d.path.length):codD1 d (j+1)=codD1 d j++txtC (d.path[j]'h):=by
 simp only [codD1,codP,List.take_succ_eq_append_getElem h,List.flatMap_append];simp
theorem codP_len:∀ {p:List Str} (h:p.all nameV=true),(codP p).length≤42 * p.length
 | [],_=>by simp [codP]
 | s :: p,h=>by
  simp only [List.all_cons,Bool.and_eq_true] at h;have h1:=codP_len h.2;have h2:=textN_le s;have h3:s.length≤32:=by have:=h.1;simp only [nameV,decide_eq_true_eq] at this;exact this.2.1
  simp only [codP,List.flatMap_cons,List.length_append,List.length_cons,txtC_len] at *;omega
theorem mayD_parts {d:Dlt} (h:mayD d=true):d.path.all nameV=true∧d.path.length≤8∧(d.kind=1→checkV d.value=0)∧(d.kind=3→0≤d.n∧d.n≤999):=by
 simp only [mayD,pathV,Bool.and_eq_true,decide_eq_true_eq] at h;refine ⟨h.1.1.1,h.1.2,fun hk=>?_,fun hk=>?_⟩
 ·have:=h.2;rw [if_pos hk] at this;simp at this;exact this.1
 ·have:=h.2;rw [if_neg (by omega),if_neg (by omega),if_pos hk] at this;simp at this;omega
theorem codD1_len {d:Dlt} {j:Nat} (h:mayD d=true):(codD1 d j).length≤347:=by
 obtain ⟨h1,h2,_⟩:=mayD_parts h;have h3:=codP_len (p:=d.path.take j) (List.all_eq_true.2 fun x hx=>List.all_eq_true.1 h1 x (List.mem_of_mem_take hx));have h4:=grp_l d.path.length;have h5:(d.path.take j).length≤8:=by simp;omega
 simp only [codD1,List.length_cons,List.length_append];omega
theorem check_size {v:Val} (h:checkV v=0):sizeV v≤4096:=by
 unfold checkV at h;split at h
 ·cases h
 ·split at h
  ·cases h
  ·split at h
   ·cases h
   ·omega
theorem codD_len {d:Dlt} (h:mayD d=true):(codD d).length≤4600:=by
 have h1:=codD1_len (j:=d.path.length) h;obtain ⟨_,_,h2,_⟩:=mayD_parts h;have h3:=grp_l d.n;simp only [codD,codDv,List.length_append];split
 ·rename_i hk;have:=codV_len (check_may (h2 hk));have:=check_size (h2 hk);omega
 ·split
  ·omega
  ·simp;omega
theorem accDs_len {l:List Dlt} (h:∀ d∈l,mayD d=true):∀ i,i≤l.length→(accDs l i).length≤10+4600 * i:=fun i=>by
 induction i with
 | zero=>intro _;have:=grp_l l.length;simp only [accDs,List.take_zero,List.flatMap_nil,List.append_nil];omega
 | succ i ih=>
  intro hi;have:=ih (by omega);have h2:=codD_len (h _ (List.getElem_mem (by omega:i < l.length)));rw [accDs_snoc (by omega),List.length_append];omega
theorem checkD_len {l:List Dlt} (h:checkD l=0):l.length≤64:=by
 unfold checkD at h;split at h
 ·cases h
 ·omega
theorem rv {P:Program} {f:FuncId} {v:Val} {c:SV} {e z:Nat} {xs:List D} (h:RSpec P f [c,.d (encV v)] e z xs):RSpec P f [c,.d (.agg (valCells v))] e z xs:=encV_eq v ▸ h
theorem dcode1 {d:Dlt} {ys:List D} {a:Str} {n:Nat} (h:n=d.path.length):ys++bytesD a++[D.int .u8 (IntKind.u8.wrap d.kind)]++bytesD (grp (u64 (n:Int)))=ys++bytesD (a++codD1 d 0):=by
 subst h;rw [bytesD_one];simp only [List.append_assoc,← bytesD_append];simp [codD1,codP]
theorem dcodeP {d:Dlt} {ys:List D} {a:Str} {j:Nat} (h:j < d.path.length):ys++bytesD (a++codD1 d j)++bytesD (grp (u64 (d.path[j]'h).length)++d.path[j]'h)=ys++bytesD (a++codD1 d (j+1)):=by
 rw [codD1_snoc h];simp only [txtC,bytesD_append,List.append_assoc]
theorem dcodeE {l:List Dlt} {ys:List D} {i j:Nat} {x:Str} {d:Dlt} (h:i < l.length) (hd:d=l[i]'h) (hj:j=d.path.length) (hx:x=codDv d):ys++bytesD (accDs l i++codD1 d j)++bytesD x=ys++bytesD (accDs l (i+1)):=by
 subst hj hx hd;rw [accDs_snoc h,codD];simp only [bytesD_append,List.append_assoc]
theorem dcodeN {l:List Dlt} {ys:List D} {i j:Nat} {d:Dlt} (h:i < l.length) (hd:d=l[i]'h) (hj:j=d.path.length) (h1:¬ d.kind=1) (h3:¬ d.kind=3):ys++bytesD (accDs l i++codD1 d j)=ys++bytesD (accDs l (i+1)):=by
 have:=dcodeE (ys:=ys) (x:=[]) h hd hj (by simp [codDv,h1,h3]);simpa [bytesD] using this
theorem dcode0 {l:List Dlt} {ys:List D} {n:Nat} (h:n=l.length):ys++bytesD (grp (u64 (n:Int)))=ys++bytesD (accDs l 0):=by
 subst h;simp [accDs]
theorem fn34:FnOk Tryz.prog 34 63 [4] (bodyOf Tryz.f34):=⟨Tryz.f34,Tryz.func34,by kernel_rfl,by decide,by kernel_rfl,by kernel_rfl⟩
theorem s34 (l:List Dlt) (ys:List D) (hc:checkD l=0) (hok:∀ d∈l,okD d) (hyl:ys.length≤35184372088832):RSpec Tryz.prog 34 [.d (.sl 1 ys),.d (.sl 8 (l.map encD))] 5 1 (ys++bytesD (codDs l)):=by
 have hcl:=checkD_len hc;have hma:=checkD_all hc;refine RSpec.of fn34 (by simp) fun o nk=>?_;refine wr (ua (u_nil (wr (um ?_))));refine u_step (g_dcall (s84 ys (by omega)) rfl fun c3 q3 o3 nk3 hd3 hq3 hn3 hk3=>?_);refine u_step (o_assignV (v:=c3) rfl ?_);refine u_nil (WP.seq fun K4 hK4=>?_);refine wr (um ?_);refine u_step (o_pcall (s72 l (fun _=>hok)) rfl ?_);refine ub (u_nil ?_);refine wc (fun hc6=>?_) (fun hc6=>?_)
 ·
  simp at hc6;exact absurd hc hc6
 ·
  simp at hc6;refine WP.skip (hK4 _ (wr ?_));refine u_step (o_moveV (v:=c3) rfl ?_);refine um (un th28 ?_);refine u_step (g_wcall (s85 ys (l.map encD).length (by omega) (by simp;omega) (by omega)) hd3 rfl fun o8 hb8 hk8=>?_);refine uS (u_nil (WP.seq fun K9 hK9=>?_));refine wr (um (un th28 ?_));refine um (u_nil (WP.block ?_));refine WP.loopL (ι:=Nat×Nat×(Nat→Option AO)×Nat) (fun ⟨i,p,o2,nk2⟩=>⟨al [(0,.row p),(19,.d (.sl 8 (l.map encD))),(20,.d (.int .i64 (l.map encD).length)),(21,.d (.int .i64 i))],o2,nk2⟩) (fun ⟨i,p,o2,nk2⟩=>i≤l.length∧nk≤p∧p < nk2∧o2 p=some (.row 5 1 (ys++bytesD (accDs l i)))∧(∀ t,t < nk→o2 t=o t)) (fun ⟨i,p,o2,nk2⟩=>l.length - i) (fun ⟨i,p,o2,nk2⟩ hA=>?_) ⟨0,nk3,o8,(nk3+1)⟩ ?_ ?_
  ·
   obtain ⟨hle,hnp,hpn,hrw,hfr⟩:=hA;have hal:=accDs_len hma i hle;refine wr (ub (u_nil (WP.seq fun K12 hK12=>?_)));refine wc (fun hc13=>?_) (fun hc13=>?_)
   ·
    simp at hc13;refine WP.skip (hK12 _ (WP.seq fun K14 hK14=>?_));refine WP.block ?_;have hil:i < l.length:=by omega
    obtain ⟨d,hd⟩:∃ d,d=l[i]:=⟨_,rfl⟩;have hgd:(l.map encD)[((i:Nat):Int).toNat]?=some (encD d):=by rw [hd];simp [hil]
    have hmd:mayD d=true:=hd ▸ hma _ (List.getElem_mem hil);have hkd:okD d:=hd ▸ hok _ (List.getElem_mem hil);have hp8:=(mayD_parts hmd).2.1;refine wr ?_;refine u_step (o_ia_sl rfl rfl th28 rfl th83 rfl (Int.natCast_nonneg _) hgd ?_);refine uL th83 ?_;refine u_step (g_alloc th83 rfl fun o16 hb16 hk16=>?_);have hrw_16:=(hk16 _ (by omega)).trans hrw;refine u_step0 (g_sta rfl rfl th83 rfl hb16 (by first | (simp;done) | (simp [D.leaves,D.width,valCells];done) | decide) fun o17 hb17 hk17=>?_);have hrw_17:=(hk17 _ (by omega)).trans hrw_16;refine u_nil (WP.seq fun K18 hK18=>?_);refine WP.dr2 [.q 0 0,.q 0 0,.q 0 0,.q 0 0,.q 0 0,.w 0,.q 0 1,.q 0 1,.q 0 1,.w 1,.q 2 2] [5,9] ((nk2+1)+1) (((nk2+1)+1)+1) tabOk (by kernel_rfl) rfl (by kernel_rfl) (by kernel_rfl) ?_;apply Exists.intro;apply Exists.intro;refine e_step rfl (o_moveV (v:=.row _) rfl ⟨rfl,rfl,rfl⟩) ?_;refine e_step rfl (o_fa_loc rfl th83 rfl rfl th3 (by decide) hb17 ⟨rfl,rfl,rfl⟩) ?_;refine e_step rfl (o_ld_loc rfl th3 rfl hb17 rfl ⟨rfl,rfl,rfl⟩) ?_;refine e_step rfl (o_cv_int rfl th3 th5 rfl ⟨rfl,rfl,rfl⟩) ?_;refine e_step rfl (o_bs rfl th52 rfl th5 rfl rfl (by decide) rfl (by decide) (by decide) ⟨rfl,rfl,rfl⟩) ?_;refine e_w rfl rfl (w_ap rfl rfl th52 rfl th5 rfl rfl (by decide) rfl hrw_17 (by simp only [List.length_append,bytesD_length,List.length_cons,List.length_nil];omega) (by simp only [List.length_append,bytesD_length,List.length_cons,List.length_nil];omega) ⟨rfl,rfl,rfl⟩) ?_;refine e_step2 rfl rfl (o_fa_loc rfl th83 rfl rfl th22 (by decide) hb17 ⟨rfl,rfl,rfl⟩) (o_fa_loc rfl th83 rfl rfl th22 (by decide) (((upd_ne _ _ (by omega)).trans (upd_ne _ _ (by omega))).trans hb17) ⟨rfl,rfl,rfl⟩) ?_;refine e_step2 rfl rfl (o_ld_loc rfl th22 rfl hb17 rfl ⟨rfl,rfl,rfl⟩) (o_ld_loc rfl th22 rfl (((upd_ne _ _ (by omega)).trans (upd_ne _ _ (by omega))).trans hb17) rfl ⟨rfl,rfl,rfl⟩) ?_;refine e_step2 rfl rfl (o_len_sl rfl th22 rfl ⟨rfl,rfl,rfl⟩) (o_len_sl rfl th22 rfl ⟨rfl,rfl,rfl⟩) ?_;refine e_w rfl rfl (w_wcallR (s85 _ (d.path.map D.str).length (by omega) (by simp;omega) (by simp only [List.length_append,bytesD_length,List.length_cons,List.length_nil];omega)) (upd_same _ _ _) rfl ⟨rfl,rfl,rfl⟩) ?_;refine e_step rfl (o_assignV (v:=.row _) rfl ⟨rfl,rfl,rfl⟩) ?_;refine e_nil rfl fun o21 ho21=>?_;have hbb16_21:=(ho21 _).trans (((upd_ne _ _ (by omega)).trans (upd_ne _ _ (by omega))).trans (((upd_ne _ _ (by omega)).trans (upd_ne _ _ (by omega))).trans hb17));have hbr20_21:=(ho21 _).trans (upd_same _ _ _);have hk21:∀ t,t < nk→o21 t=o17 t:=fun t ht=>(ho21 t).trans (((upd_ne _ _ (by omega)).trans (upd_ne _ _ (by omega))).trans ((upd_ne _ _ (by omega)).trans (upd_ne _ _ (by omega))));refine hK18 _ (WP.seq fun K22 hK22=>?_);refine wr (uf th83 th22 hbb16_21 ?_);refine ul th22 hbb16_21 ?_;refine un th22 ?_;refine um (u_nil (WP.block ?_));refine WP.loopL (ι:=Nat×Nat×(Nat→Option AO)×Nat) (fun ⟨j,p3,o3,nk3⟩=>⟨al [(0,.row p3),(6,.loc nk2 0),(19,.d (.sl 8 (l.map encD))),(20,.d (.int .i64 (l.map encD).length)),(21,.d (.int .i64 i)),(36,.d (.sl 1 (d.path.map .str))),(37,.d (.int .i64 (d.path.map D.str).length)),(38,.d (.int .i64 j))],o3,nk3⟩) (fun ⟨j,p3,o3,nk3⟩=>j≤d.path.length∧nk2 < p3∧p3 < nk3∧o3 nk2=some (.box (([.int .i64 d.kind,.sl 1 (d.path.map .str),.int .i64 d.value.kind,.int .i64 d.value.int,.str d.value.text,.sl 5 (encVs d.value.items),.sl 1 (d.value.names.map .str),.int .i64 d.n]:List D).map .d))∧o3 p3=some (.row 5 1 (ys++bytesD (accDs l i++codD1 d j)))∧(∀ t,t < nk→o3 t=o t)) (fun ⟨j,p3,o3,nk3⟩=>d.path.length - j) (fun ⟨j,p3,o3,nk3⟩ hA=>?_) ⟨0,((nk2+1)+1),o21,(((nk2+1)+1)+1)⟩ ?_ ?_
    ·
     obtain ⟨hlj,hnp3,hpn3,hob,hrw3,hfr3⟩:=hA;have hdl:=codD1_len (j:=j) hmd;refine wr (ub (u_nil (WP.seq fun K25 hK25=>?_)));refine wc (fun hc26=>?_) (fun hc26=>?_)
     ·
      simp at hc26;refine WP.skip (hK25 _ (WP.seq fun K27 hK27=>?_));refine WP.block (wr ?_)
      refine u_step (o_ia_map rfl rfl th22 rfl th9 rfl (by omega) ?_)
      refine uL th9 ?_;refine ua (u_nil (WP.reg tabOk rfl ?_));refine uR (um ?_);refine u_step (o_rcall (s86 d.path[j] (by have:=List.all_eq_true.1 (mayD_parts hmd).1 _ (List.getElem_mem (by omega:j < d.path.length));simp only [nameV,decide_eq_true_eq] at this;omega)) rfl fun q29 o29 nk29 hqa29 hqb29 hb29 hk29=>?_);have hob_29:=(hk29 _ (by omega)).trans hob;have hrw3_29:=(hk29 _ (by omega)).trans hrw3;refine u_step (g_apr rfl rfl th52 rfl th5 rfl rfl (by decide) hrw3_29 hb29 (by have:=List.all_eq_true.1 (mayD_parts hmd).1 _ (List.getElem_mem (by omega:j < d.path.length));simp only [nameV,decide_eq_true_eq] at this;have:=textN_le d.path[j];simp only [List.length_append,bytesD_length,textN] at *;omega) (by have:=List.all_eq_true.1 (mayD_parts hmd).1 _ (List.getElem_mem (by omega:j < d.path.length));simp only [nameV,decide_eq_true_eq] at this;have:=textN_le d.path[j];simp only [List.length_append,bytesD_length,textN] at *;omega) fun o30 hb30 hk30=>?_);have hob_30:=(hk30 _ (by omega) (by omega)).trans hob_29;have hb29_30:=(hk30 _ (by omega) (by omega)).trans hb29;refine uS (u_nil (hK27 _ (WP.reg tabOk rfl ?_)));refine ub (um (u_nil ?_));refine ⟨⟨j+1,nk29,o30,(nk29+1)⟩,⟨by omega,by omega,by omega,hob_30,(hb30).trans (congrArg (fun z=>some (AO.row 5 1 z)) (dcodeP (by omega))),(fun t ht=>(hk30 t (by omega) (by omega)).trans ((hk29 t (by omega)).trans ((hfr3 t (by omega)))))⟩,by simp only;omega,?_⟩;refine Le.al ?_;simp only [List.forall_mem_cons];exact ⟨rfl,rfl,rfl,rfl,rfl,rfl,rfl,cnt (by omega),by simp⟩
     ·
      simp at hc26;refine WP.exit ?_;refine hK22 _ (wr (uf th83 th3 hob ?_));refine ul th3 hob ?_;refine u_nil (WP.block (wr (ub (ua (u_nil ?_)))));refine wc (fun hc33=>?_) (fun hc33=>?_)
      ·
       simp at hc33;refine WP.reg tabOk rfl ?_;refine uR ?_;refine uf th83 th27 hob ?_;refine ug th27 hob ?_;refine u_step (g_rcallF (us:=[.row _,.d _]) hrw3 (rv (v:=d.value) (s87 d.value (ys++bytesD (accDs l i++codD1 d j)) ((mayD_parts hmd).2.2.1 hc33) hkd.1 hkd.2 (by have:=hkd.2;simp only [List.length_append,bytesD_length];omega))) rfl (by simp only [List.map_cons,List.map_nil,SV.frz,if_true] <;> rfl) fun o34 hb34 hk34=>?_);have hob_34:=(hk34 _ (by omega) (by omega)).trans hob;refine uS ?_;refine u_nil ?_;refine hK14 _ ?_;refine WP.reg tabOk rfl ?_;refine ub ?_;refine um ?_;refine u_nil ?_;refine ⟨⟨i+1,nk3,o34,(nk3+1)⟩,⟨by omega,by omega,by omega,(hb34).trans (congrArg (fun z=>some (AO.row 5 1 z)) (dcodeE hil hd (by omega) (by simp only [codDv];rw [if_pos hc33]))),(fun t ht=>(hk34 t (by omega) (by omega)).trans ((hfr3 t (by omega))))⟩,by simp only;omega,?_⟩;refine Le.al ?_;simp only [List.forall_mem_cons];exact ⟨rfl,rfl,rfl,cnt (by omega),by simp⟩
      ·
       simp at hc33;refine wr (ub (ua (u_nil ?_)));refine wc (fun hc36=>?_) (fun hc36=>?_)
       ·
        simp at hc36;refine WP.reg tabOk rfl ?_;refine uR (uf th83 th3 hob ?_);refine ul th3 hob ?_;refine u_step (g_wcallR (s85 _ d.n ((mayD_parts hmd).2.2.2 hc36).1 (by have:=((mayD_parts hmd).2.2.2 hc36).2;omega) (by simp only [List.length_append,bytesD_length];omega)) hrw3 rfl fun o37 hb37 hk37=>?_);have hob_37:=(hk37 _ (by omega) (by omega)).trans hob;refine uS (u_nil (hK14 _ (WP.reg tabOk rfl ?_)));refine ub (um (u_nil ?_));refine ⟨⟨i+1,nk3,o37,(nk3+1)⟩,⟨by omega,by omega,by omega,(hb37).trans (congrArg (fun z=>some (AO.row 5 1 z)) (dcodeE hil hd (by omega) (by simp only [codDv];rw [if_neg (by omega),if_pos hc36]))),(fun t ht=>(hk37 t (by omega) (by omega)).trans ((hfr3 t (by omega))))⟩,by simp only;omega,?_⟩;refine Le.al ?_;simp only [List.forall_mem_cons];exact ⟨rfl,rfl,rfl,cnt (by omega),by simp⟩
       ·
        simp at hc36;refine WP.skip (hK14 _ (WP.reg tabOk rfl ?_));refine ub (um (u_nil ?_));refine ⟨⟨i+1,p3,o3,nk3⟩,⟨by omega,by omega,by omega,(hrw3).trans (congrArg (fun z=>some (AO.row 5 1 z)) (dcodeN hil hd (by omega) (by omega) (by omega))),(fun t ht=>(hfr3 t (by omega)))⟩,by simp only;omega,?_⟩;refine Le.al ?_;simp only [List.forall_mem_cons];exact ⟨rfl,rfl,rfl,cnt (by omega),by simp⟩
    ·
     refine ⟨by omega,by omega,by omega,hbb16_21,(hbr20_21).trans (congrArg (fun z=>some (AO.row 5 1 z)) (dcode1 (by simp))),(fun t ht=>(hk21 t (by omega)).trans ((hk17 t (by omega)).trans ((hk16 t (by omega)).trans ((hfr t (by omega))))))⟩
    ·
     refine Le.al ?_;simp only [List.forall_mem_cons];exact ⟨rfl,rfl,rfl,rfl,rfl,rfl,rfl,rfl,by simp⟩
   ·
    simp at hc13;refine WP.exit ?_;refine hK9 _ (wr (uR (uS (u_nil (WP.ret ?_)))));refine rrow_okx rfl (by omega) (by omega) hrw (fun t ht=>(hfr t (by omega))) ?_;rw [accDs_end (by omega)]
  ·
   refine ⟨by omega,by omega,by omega,(hb8).trans (congrArg (fun z=>some (AO.row 5 1 z)) (dcode0 (by simp))),(fun t ht=>(hk8 t (by omega) (fun e=>by have:=hq3 _ e.symm;omega)).trans ((hk3 t (by omega))))⟩
  ·
   refine Le.al ?_;simp only [List.forall_mem_cons];exact ⟨rfl,rfl,rfl,rfl,by simp⟩
def hsB (k:Int) (bit:Int):Bool:=decide (bitsOf .and .i64 (if fieldsV k < 0 then 0 else fieldsV k) bit≠0)
structure EOk (e:Etr):Prop where
 k:1≤e.kind∧e.kind≤7
 t:0≤e.term∧e.term≤1099511627776
 s:0≤e.session∧e.session≤255
 n:0≤e.number∧e.number≤1099511627776
 c:(hsB e.kind 1=true→e.coll.length≤32)∧(¬ hsB e.kind 1=true→e.coll=[])
 o:(hsB e.kind 2=true→e.to.length≤32)∧(¬ hsB e.kind 2=true→e.to=[])
 i:(hsB e.kind 4=true→checkV e.id=0)∧(¬ hsB e.kind 4=true→noneV e.id=true)
 d:(hsB e.kind 8=true→checkV e.doc=0)∧(¬ hsB e.kind 8=true→noneV e.doc=true)
 l:(hsB e.kind 16=true→checkD e.deltas=0)∧(¬ hsB e.kind 16=true→e.deltas=[])
theorem codDs_len {l:List Dlt} (h:checkD l=0):(codDs l).length≤300000:=by
 rw [← accDs_end (i:=l.length) (by omega)];have:=accDs_len (checkD_all h) l.length (Nat.le_refl _);have:=checkD_len h;omega
theorem may1 {k i:Int} {t:Str} {xs:List Val} {ns:List Str} (hm:mayV (.mk k i t xs ns)=true) (h1:k=1):xs.length=0:=by
 subst h1;simp [mayV,kindOk] at hm;simpa using hm.2.1.2
def accR (k:Int) (xs:List Val) (ns:List Str) (i:Nat):Str:=if k=1 then [b8 k] else accC k xs ns i
theorem accR_le {k i:Int} {t:Str} {xs:List Val} {ns:List Str} (hm:mayV (.mk k i t xs ns)=true) (h2:¬ k=2) (h3:¬ k=3) (h4:¬ (k=4∨k=5)) (j:Nat) (hj:j≤xs.length):(accR k xs ns j).length≤11+12 * szVs xs+11 * szN ns:=by
 unfold accR;split
 ·simp;omega
 ·rename_i h1;rw [accC_len hm (may67 hm h1 h2 h3 h4) j hj];exact accS_le k xs ns j
theorem rcode0 {k:Int} {xs:List Val} {ns:List Str} {n:Nat} (h1:¬ k=1) (h:n=xs.length):[D.int .u8 (IntKind.u8.wrap k)]++bytesD (grp (u64 (n:Int)))=bytesD (accR k xs ns 0):=by
 rw [accR,if_neg h1];simpa using code0 (ys:=[]) (k:=k) (ns:=ns) h
theorem rcode1 {k:Int} {xs:List Val} {ns:List Str} (h1:k=1):[D.int .u8 (IntKind.u8.wrap k)]=bytesD (accR k xs ns 0):=by
 rw [accR,if_pos h1,bytesD_one]
theorem rcodeA {k:Int} {xs:List Val} {ns:List Str} {i:Nat} (h:i < xs.length) (h1:¬ k=1) (h7:¬ k=7):bytesD (accR k xs ns i)++bytesD (codV (xs[i]'h))=bytesD (accR k xs ns (i+1)):=by
 simp only [accR,if_neg h1];simpa using codeA (ys:=[]) h h7
theorem rcodeB {k:Int} {xs:List Val} {ns:List Str} {i:Nat} (h:i < xs.length) (hn:i < ns.length) (h1:¬ k=1) (h7:k=7):bytesD (accR k xs ns i)++bytesD (grp (u64 (ns[i]'hn).length)++ns[i]'hn)++bytesD (codV (xs[i]'h))=bytesD (accR k xs ns (i+1)):=by
 simp only [accR,if_neg h1];simpa using codeB (ys:=[]) h hn h7
theorem accR_end {k i:Int} {t:Str} {xs:List Val} {ns:List Str} (h2:¬ k=2) (h3:¬ k=3) (h4:¬ (k=4∨k=5)):accR k xs ns xs.length=codV (.mk k i t xs ns):=by
 by_cases h1:k=1
 ·simp only [accR,if_pos h1,codV]
 ·rw [accR,if_neg h1,accC_end h1 h2 h3 h4]
theorem rv1 {P:Program} {f:FuncId} {v:Val} {e z:Nat} {xs:List D} (h:RSpec P f [.d (encV v)] e z xs):RSpec P f [.d (.agg (valCells v))] e z xs:=encV_eq v ▸ h
theorem fn90:FnOk Tryz.prog 90 70 [2] (bodyOf Tryz.f90):=⟨Tryz.f90,Tryz.func90,by kernel_rfl,by decide,by kernel_rfl,by kernel_rfl⟩
theorem s90A (m:Nat):∀ v:Val,SizeOf.sizeOf v < m→mayV v=true→rngV v→szV v≤1099511627776→RSpec Tryz.prog 90 [.d (encV v)] 5 1 (bytesD (codV v)):=by
 induction m with
 | zero=>intros;omega
 | succ m ih=>
  rintro ⟨kd,it,tx,xs,ns⟩ hv hmy hrg hsz;have hsz2:1+tx.length+szVs xs+szN ns≤1099511627776:=hsz;have hxl:=szVs_len xs;have hnl:=szN_len ns;have hln:=encVs_length xs;have hc1:=cntN_le xs.length;have hz1:=zig_le it;have ht1:=grp_l tx.length;refine RSpec.of fn90 (by simp) fun o nk=>?_;refine wr ?_;refine u_step (g_box rfl fun o2 hb2 hk2=>?_);refine ua (u_nil (wr (uf th27 th3 hb2 ?_)));refine ul th3 hb2 ?_;refine uc th3 th5 ?_;refine u_step (g_bsr rfl th52 rfl th5 rfl rfl (by decide) rfl (by decide) (by decide) fun o4 hb4 hk4=>?_);have hb2_4:=(hk4 _ (by omega)).trans hb2;refine uS (u_nil ?_);refine WP.seqI (ι:=Nat×(Nat→Option AO)×Nat) (fun ⟨p1,oA,m1⟩=>⟨al [(1,.loc nk 0),(3,.row p1)],oA,m1⟩) (fun ⟨p1,oA,m1⟩=>(¬ kd=2∧¬ kd=3∧¬ kd=4∧¬ kd=5)∧nk < p1∧p1 < m1∧oA nk=some (.box (([.int .i64 kd,.int .i64 it,.str tx,.sl 5 (encVs xs),.sl 1 (ns.map .str)]:List D).map .d))∧oA p1=some (.row 5 1 (bytesD (accR kd xs ns 0)))∧∀ t,t < nk→oA t=o t) ?_ (fun ⟨p1,oA,m1⟩ hA=>?_)
  ·
   refine wr (uf th27 th3 hb2_4 ?_);refine ul th3 hb2_4 ?_;refine u_nil (WP.block (wr (ub (ua (u_nil ?_)))));refine wc (fun hc7=>?_) (fun hc7=>?_)
   ·
    simp at hc7;refine wr (uR (uf th27 th3 hb2_4 ?_));refine ul th3 hb2_4 ?_;refine uc th3 th5 ?_;refine u_step (o_bs rfl th52 rfl th5 rfl rfl (by decide) rfl (by decide) (by decide) ?_);refine u_step (g_ap rfl rfl th52 rfl th5 rfl rfl (by decide) rfl hb4 (by simp) (by simp) fun o9 hb9 hk9=>?_);have hb2_9:=(hk9 _ (by omega) (by omega)).trans hb2_4;refine uS (u_nil (WP.ret ?_));refine rrow_okx rfl (by omega) (by omega) hb9 (fun t ht=>(hk9 t (by omega) (by omega)).trans ((hk4 t (by omega)).trans ((hk2 t (by omega))))) ?_;exact by simpa using cod2 (ys:=[]) (by omega) hc7
   ·
    simp at hc7;refine wr (ub (ua (u_nil ?_)));refine wc (fun hc11=>?_) (fun hc11=>?_)
    ·
     simp at hc11;refine wr (uR (uf th27 th3 hb2_4 ?_));refine ul th3 hb2_4 ?_;refine u_step (o_rcall (s141 it hrg.1.1 hrg.1.2) rfl fun q13 o13 nk13 hqa13 hqb13 hb13 hk13=>?_);have hb2_13:=(hk13 _ (by omega)).trans hb2_4;have hb4_13:=(hk13 _ (by omega)).trans hb4;refine u_step (g_apr rfl rfl th52 rfl th5 rfl rfl (by decide) hb4_13 hb13 (by rw [bytesD_length];simp;omega) (by rw [bytesD_length];simp;omega) fun o14 hb14 hk14=>?_);have hb2_14:=(hk14 _ (by omega) (by omega)).trans hb2_13;have hb13_14:=(hk14 _ (by omega) (by omega)).trans hb13;refine uS (u_nil (WP.ret ?_));refine rrow_okx rfl (by omega) (by omega) hb14 (fun t ht=>(hk14 t (by omega) (by omega)).trans ((hk13 t (by omega)).trans ((hk4 t (by omega)).trans ((hk2 t (by omega)))))) ?_;exact by simpa using cod3 (ys:=[]) (by omega) (by omega) hc11
    ·
     simp at hc11;refine WP.seqJ ⟨al [(1,.loc nk 0),(3,.row (nk+1)),(10,.d (.int .i64 kd)),(26,.d (.bool (decide (kd=4∨kd=5))))],o4,((nk+1)+1)⟩ ?_ ?_
     ·
      refine wr (ub (ua (u_nil ?_)));refine wc (fun hc16=>?_) (fun hc16=>?_)
      ·
       simp at hc16;refine WP.skip ?_;refine Le.al ?_;simp only [List.forall_mem_cons];have hl2:=hc16;refine ⟨rfl,rfl,rfl,?_,by simp⟩;refine congrArg (fun z=>SV.d (.bool z)) ?_;rw [Bool.eq_iff_iff,decide_eq_true_iff];simp at hl2 ⊢;omega
      ·
       simp at hc16;refine WP.reg tabOk rfl ?_;refine ub (ua (u_nil ?_));refine Le.al ?_;simp only [List.forall_mem_cons];have hl2:=hc16;refine ⟨rfl,rfl,rfl,?_,by simp⟩;refine congrArg (fun z=>SV.d (.bool z)) ?_;rw [Bool.eq_iff_iff,decide_eq_true_iff];simp at hl2 ⊢;omega
     ·
      refine wc (fun hc17=>?_) (fun hc17=>?_)
      ·
       simp at hc17;refine wr (uR (uf th27 th9 hb2_4 ?_));refine ul th9 hb2_4 ?_;refine u_step (o_rcall (s89 tx (by omega)) rfl fun q19 o19 nk19 hqa19 hqb19 hb19 hk19=>?_);have hb2_19:=(hk19 _ (by omega)).trans hb2_4;have hb4_19:=(hk19 _ (by omega)).trans hb4;refine u_step (g_apr rfl rfl th52 rfl th5 rfl rfl (by decide) hb4_19 hb19 (by rw [bytesD_length];simp;omega) (by rw [bytesD_length];simp;omega) fun o20 hb20 hk20=>?_);have hb2_20:=(hk20 _ (by omega) (by omega)).trans hb2_19;have hb19_20:=(hk20 _ (by omega) (by omega)).trans hb19;refine uS (u_nil (WP.ret ?_));refine rrow_okx rfl (by omega) (by omega) hb20 (fun t ht=>(hk20 t (by omega) (by omega)).trans ((hk19 t (by omega)).trans ((hk4 t (by omega)).trans ((hk2 t (by omega)))))) ?_;exact by simpa using cod4 (ys:=[]) (by omega) (by omega) (by omega) hc17
      ·
       simp at hc17;refine WP.seqJ ⟨al [(1,.loc nk 0),(3,.row (nk+1)),(10,.d (.int .i64 kd)),(34,.d (.bool (decide (kd=6∨kd=7))))],o4,((nk+1)+1)⟩ ?_ ?_
       ·
        refine wr (ub (ua (u_nil ?_)));refine wc (fun hc22=>?_) (fun hc22=>?_)
        ·
         simp at hc22;refine WP.skip ?_;refine Le.al ?_;simp only [List.forall_mem_cons];have hl2:=hc22;refine ⟨rfl,rfl,rfl,?_,by simp⟩;refine congrArg (fun z=>SV.d (.bool z)) ?_;rw [Bool.eq_iff_iff,decide_eq_true_iff];simp at hl2 ⊢;omega
        ·
         simp at hc22;refine WP.reg tabOk rfl ?_;refine ub (ua (u_nil ?_));refine Le.al ?_;simp only [List.forall_mem_cons];have hl2:=hc22;refine ⟨rfl,rfl,rfl,?_,by simp⟩;refine congrArg (fun z=>SV.d (.bool z)) ?_;rw [Bool.eq_iff_iff,decide_eq_true_iff];simp at hl2 ⊢;omega
       ·
        refine wc (fun hc23=>?_) (fun hc23=>?_)
        ·
         simp at hc23;refine WP.reg tabOk rfl ?_;refine uR (uf th27 th25 hb2_4 ?_);refine ul th25 hb2_4 ?_;refine un th25 ?_;refine u_step (o_rcall (s88 (encVs xs).length) rfl fun q24 o24 nk24 hqa24 hqb24 hb24 hk24=>?_);have hb2_24:=(hk24 _ (by omega)).trans hb2_4;have hb4_24:=(hk24 _ (by omega)).trans hb4;refine u_step (g_apr rfl rfl th52 rfl th5 rfl rfl (by decide) hb4_24 hb24 (by have:=grp_l (encVs xs).length;rw [bytesD_length];simp;omega) (by have:=grp_l (encVs xs).length;rw [bytesD_length];simp;omega) fun o25 hb25 hk25=>?_);have hb2_25:=(hk25 _ (by omega) (by omega)).trans hb2_24;have hb24_25:=(hk25 _ (by omega) (by omega)).trans hb24;refine uS (u_nil ?_)
         first | refine ⟨⟨_,o25,(nk24+1)⟩,⟨by omega,by omega,by omega,hb2_25,(hb25).trans (congrArg (fun z=>some (AO.row 5 1 z)) (rcode0 (by omega) (encVs_length xs))),(fun t ht=>(hk25 t (by omega) (by omega)).trans ((hk24 t (by omega)).trans ((hk4 t (by omega)).trans ((hk2 t (by omega))))))⟩,Le.al ?_⟩ | refine ⟨⟨_,o25,(nk24+1)⟩,⟨by omega,by omega,by omega,hb2_25,(hb25).trans (congrArg (fun z=>some (AO.row 5 1 z)) (rcode1 (by by_cases h1:kd=1;exact h1;have:=may67 hmy h1 (by omega) (by omega) (by omega);omega))),(fun t ht=>(hk25 t (by omega) (by omega)).trans ((hk24 t (by omega)).trans ((hk4 t (by omega)).trans ((hk2 t (by omega))))))⟩,Le.al ?_⟩
         simp only [List.forall_mem_cons];exact ⟨rfl,rfl,by simp⟩
        ·
         simp at hc23;refine WP.skip ?_
         first | refine ⟨⟨_,o4,((nk+1)+1)⟩,⟨by omega,by omega,by omega,hb2_4,(hb4).trans (congrArg (fun z=>some (AO.row 5 1 z)) (rcode0 (by omega) (encVs_length xs))),(fun t ht=>(hk4 t (by omega)).trans ((hk2 t (by omega))))⟩,Le.al ?_⟩ | refine ⟨⟨_,o4,((nk+1)+1)⟩,⟨by omega,by omega,by omega,hb2_4,(hb4).trans (congrArg (fun z=>some (AO.row 5 1 z)) (rcode1 (by by_cases h1:kd=1;exact h1;have:=may67 hmy h1 (by omega) (by omega) (by omega);omega))),(fun t ht=>(hk4 t (by omega)).trans ((hk2 t (by omega))))⟩,Le.al ?_⟩
         simp only [List.forall_mem_cons];exact ⟨rfl,rfl,by simp⟩
  ·
   obtain ⟨⟨hk2,hk3,hk4,hk5⟩,hn1,hm1,hB1,hR1,hF1⟩:=hA;refine WP.seq fun K26 hK26=>?_;refine wr (ua (u_nil (WP.block ?_)));refine WP.loopL (ι:=Nat×Nat×(Nat→Option AO)×Nat) (fun ⟨i,p,o2,nk2⟩=>⟨al [(1,.loc nk 0),(3,.row p),(4,.d (.int .i64 i))],o2,nk2⟩) (fun ⟨i,p,o2,nk2⟩=>i≤xs.length∧nk < p∧p < nk2∧o2 nk=some (.box (([.int .i64 kd,.int .i64 it,.str tx,.sl 5 (encVs xs),.sl 1 (ns.map .str)]:List D).map .d))∧o2 p=some (.row 5 1 (bytesD (accR kd xs ns i)))∧(∀ t,t < nk→o2 t=o t)) (fun ⟨i,p,o2,nk2⟩=>xs.length - i) (fun ⟨i,p,o2,nk2⟩ hA=>?_) ⟨0,p1,oA,m1⟩ ?_ ?_
   ·
    obtain ⟨hle,hnp,hpn,hob,hrw,hfr⟩:=hA;refine WP.seq fun K28 hK28=>?_;refine wr (um (uf th27 th25 hob ?_));refine ul th25 hob ?_;refine un th25 ?_;refine ub (u_nil ?_);refine wc (fun hc30=>?_) (fun hc30=>?_)
    ·
     simp at hc30;refine WP.skip (hK28 _ (WP.seq fun K31 hK31=>?_));refine WP.block (WP.seq fun K32 hK32=>?_);refine wr (uf th27 th3 hob ?_);refine ul th3 hob ?_;refine ub (u_nil ?_);refine wc (fun hc34=>?_) (fun hc34=>?_)
     ·
      simp at hc34;refine WP.reg tabOk rfl ?_;refine uR (uf th27 th22 hob ?_);refine ul th22 hob ?_;refine um ?_;have hr9:=may7k hmy hc34
      refine u_step (o_ia_map rfl rfl th22 rfl th9 rfl (by omega) ?_)
      refine uL th9 ?_;refine u_step (o_rcall (s89 ns[i] (by have:=szN_get (xs:=ns) (j:=i) (by omega);omega)) rfl fun q35 o35 nk35 hqa35 hqb35 hb35 hk35=>?_);have hob_35:=(hk35 _ (by omega)).trans hob;have hrw_35:=(hk35 _ (by omega)).trans hrw;refine u_step (g_apr rfl rfl th52 rfl th5 rfl rfl (by decide) hrw_35 hb35 (by have hr0:=hr9;have:=accR_le hmy (by omega) (by omega) (by omega) i (by omega);have:=szN_get (xs:=ns) (j:=i) (by omega);have:=grp_l ns[i].length;simp only [List.length_append,bytesD_length];omega) (by have hr0:=hr9;have:=accR_le hmy (by omega) (by omega) (by omega) i (by omega);have:=szN_get (xs:=ns) (j:=i) (by omega);have:=grp_l ns[i].length;simp only [List.length_append,bytesD_length];omega) fun o36 hb36 hk36=>?_);have hob_36:=(hk36 _ (by omega) (by omega)).trans hob_35;have hb35_36:=(hk36 _ (by omega) (by omega)).trans hb35;refine uS (u_nil (hK32 _ (WP.reg tabOk rfl ?_)));refine uR (uf th27 th25 hob_36 ?_);refine ul th25 hob_36 ?_;refine um ?_
      first | refine u_step (o_ia_map rfl rfl th25 rfl th27 rfl (by omega) ?_) | refine u_step (o_ia_vs rfl rfl th25 rfl th27 rfl (by omega) ?_)
      refine uL th27 ?_;refine u_step (o_rcall ((ih xs[i] (by exact items_lt' (by omega) hv) (by exact may_items hmy (by omega)) (by exact rngVs_get hrg.2 (by omega)) (by have:=szVs_get (xs:=xs) (j:=i) (by omega);omega))) rfl fun q37 o37 nk37 hqa37 hqb37 hb37 hk37=>?_);have hob_37:=(hk37 _ (by omega)).trans hob_36;have hb35_37:=(hk37 _ (by omega)).trans hb35_36;have hb36_37:=(hk37 _ (by omega)).trans hb36;refine u_step (g_apr rfl rfl th52 rfl th5 rfl rfl (by decide) hb36_37 hb37 (by first | (have:=accR_le hmy (by omega) (by omega) (by omega) i (by omega);have:=szVs_get (xs:=xs) (j:=i) (by omega);have:=codV_len (may_items hmy (j:=i) (by omega));have:=sizeV_le xs[i];simp only [List.length_append,bytesD_length];omega) | (have:=accR_le hmy (by omega) (by omega) (by omega) i (by omega);have:=szVs_get (xs:=xs) (j:=i) (by omega);have:=codV_len (may_items hmy (j:=i) (by omega));have:=sizeV_le xs[i];have hr0:=may7k hmy hc34;have:=szN_get (xs:=ns) (j:=i) (by omega);have:=grp_l ns[i].length;simp only [List.length_append,bytesD_length];omega)) (by first | (have:=accR_le hmy (by omega) (by omega) (by omega) i (by omega);have:=szVs_get (xs:=xs) (j:=i) (by omega);have:=codV_len (may_items hmy (j:=i) (by omega));have:=sizeV_le xs[i];simp only [List.length_append,bytesD_length];omega) | (have:=accR_le hmy (by omega) (by omega) (by omega) i (by omega);have:=szVs_get (xs:=xs) (j:=i) (by omega);have:=codV_len (may_items hmy (j:=i) (by omega));have:=sizeV_le xs[i];have hr0:=may7k hmy hc34;have:=szN_get (xs:=ns) (j:=i) (by omega);have:=grp_l ns[i].length;simp only [List.length_append,bytesD_length];omega)) fun o38 hb38 hk38=>?_);have hob_38:=(hk38 _ (by omega) (by omega)).trans hob_37;have hb35_38:=(hk38 _ (by omega) (by omega)).trans hb35_37;have hb37_38:=(hk38 _ (by omega) (by omega)).trans hb37;refine uS (u_nil (hK31 _ (WP.reg tabOk rfl ?_)));refine um (ub (ua (u_nil ?_)));have hk1:¬ kd=1:=fun h=>by have:=may1 hmy h;omega
      refine ⟨⟨i+1,nk37,o38,(nk37+1)⟩,⟨by omega,by omega,by omega,hob_38,by first | exact (hb38).trans (congrArg (fun z=>some (AO.row 5 1 z)) (rcodeA (by omega) hk1 hc34)) | exact (hb38).trans (congrArg (fun z=>some (AO.row 5 1 z)) (rcodeB (by omega) (by have:=may7k hmy hc34;omega) hk1 hc34)),(fun t ht=>(hk38 t (by omega) (by omega)).trans ((hk37 t (by omega)).trans ((hk36 t (by omega) (by omega)).trans ((hk35 t (by omega)).trans ((hfr t (by omega)))))))⟩,by simp only;omega,?_⟩;refine Le.al ?_;simp only [List.forall_mem_cons];exact ⟨rfl,rfl,cnt (by omega),by simp⟩
     ·
      simp at hc34;refine WP.skip (hK32 _ (WP.reg tabOk rfl ?_));refine uR (uf th27 th25 hob ?_);refine ul th25 hob ?_;refine um ?_
      first | refine u_step (o_ia_map rfl rfl th25 rfl th27 rfl (by omega) ?_) | refine u_step (o_ia_vs rfl rfl th25 rfl th27 rfl (by omega) ?_)
      refine uL th27 ?_;refine u_step (o_rcall ((ih xs[i] (by exact items_lt' (by omega) hv) (by exact may_items hmy (by omega)) (by exact rngVs_get hrg.2 (by omega)) (by have:=szVs_get (xs:=xs) (j:=i) (by omega);omega))) rfl fun q39 o39 nk39 hqa39 hqb39 hb39 hk39=>?_);have hob_39:=(hk39 _ (by omega)).trans hob;have hrw_39:=(hk39 _ (by omega)).trans hrw;refine u_step (g_apr rfl rfl th52 rfl th5 rfl rfl (by decide) hrw_39 hb39 (by first | (have:=accR_le hmy (by omega) (by omega) (by omega) i (by omega);have:=szVs_get (xs:=xs) (j:=i) (by omega);have:=codV_len (may_items hmy (j:=i) (by omega));have:=sizeV_le xs[i];simp only [List.length_append,bytesD_length];omega) | (have:=accR_le hmy (by omega) (by omega) (by omega) i (by omega);have:=szVs_get (xs:=xs) (j:=i) (by omega);have:=codV_len (may_items hmy (j:=i) (by omega));have:=sizeV_le xs[i];have hr0:=may7k hmy hc34;have:=szN_get (xs:=ns) (j:=i) (by omega);have:=grp_l ns[i].length;simp only [List.length_append,bytesD_length];omega)) (by first | (have:=accR_le hmy (by omega) (by omega) (by omega) i (by omega);have:=szVs_get (xs:=xs) (j:=i) (by omega);have:=codV_len (may_items hmy (j:=i) (by omega));have:=sizeV_le xs[i];simp only [List.length_append,bytesD_length];omega) | (have:=accR_le hmy (by omega) (by omega) (by omega) i (by omega);have:=szVs_get (xs:=xs) (j:=i) (by omega);have:=codV_len (may_items hmy (j:=i) (by omega));have:=sizeV_le xs[i];have hr0:=may7k hmy hc34;have:=szN_get (xs:=ns) (j:=i) (by omega);have:=grp_l ns[i].length;simp only [List.length_append,bytesD_length];omega)) fun o40 hb40 hk40=>?_);have hob_40:=(hk40 _ (by omega) (by omega)).trans hob_39;have hb39_40:=(hk40 _ (by omega) (by omega)).trans hb39;refine uS (u_nil (hK31 _ (WP.reg tabOk rfl ?_)));refine um (ub (ua (u_nil ?_)));have hk1:¬ kd=1:=fun h=>by have:=may1 hmy h;omega
      refine ⟨⟨i+1,nk39,o40,(nk39+1)⟩,⟨by omega,by omega,by omega,hob_40,by first | exact (hb40).trans (congrArg (fun z=>some (AO.row 5 1 z)) (rcodeA (by omega) hk1 hc34)) | exact (hb40).trans (congrArg (fun z=>some (AO.row 5 1 z)) (rcodeB (by omega) (by have:=may7k hmy hc34;omega) hk1 hc34)),(fun t ht=>(hk40 t (by omega) (by omega)).trans ((hk39 t (by omega)).trans ((hfr t (by omega)))))⟩,by simp only;omega,?_⟩;refine Le.al ?_;simp only [List.forall_mem_cons];exact ⟨rfl,rfl,cnt (by omega),by simp⟩
    ·
     simp at hc30;refine WP.exit ?_;refine hK26 _ (wr (uR (uS (u_nil (WP.ret ?_)))));refine rrow_okx rfl (by omega) (by omega) hrw (fun t ht=>(hfr t (by omega))) ?_;have hie:i=xs.length:=by omega
     rw [hie,accR_end (by omega) (by omega) (by omega)]
   ·
    exact ⟨by omega,hn1,hm1,hB1,hR1,hF1⟩
   ·
    refine Le.al ?_;simp only [List.forall_mem_cons];exact ⟨rfl,rfl,rfl,by simp⟩
theorem s90 (v:Val) (hmy:mayV v=true) (hrg:rngV v) (hsz:szV v≤1099511627776):RSpec Tryz.prog 90 [.d (encV v)] 5 1 (bytesD (codV v)):=s90A _ v (Nat.lt_succ_self _) hmy hrg hsz
theorem fn35:FnOk Tryz.prog 35 63 [2] (bodyOf Tryz.f35):=⟨Tryz.f35,Tryz.func35,by kernel_rfl,by decide,by kernel_rfl,by kernel_rfl⟩
theorem s35 (l:List Dlt) (hc:checkD l=0) (hok:∀ d∈l,okD d):RSpec Tryz.prog 35 [.d (.sl 8 (l.map encD))] 5 1 (bytesD (codDs l)):=by
 have hcl:=checkD_len hc;have hma:=checkD_all hc;refine RSpec.of fn35 (by simp) fun o nk=>?_;refine wr (ua (u_nil (wr (um (un th28 ?_)))));refine u_step (o_rcall (s88 (l.map encD).length) rfl fun q3 o3 nk3 hqa3 hqb3 hb3 hk3=>?_);refine uS (u_nil (WP.seq fun K4 hK4=>?_));refine wr (ua (u_nil (WP.block ?_)));refine WP.loopL (ι:=Nat×Nat×(Nat→Option AO)×Nat) (fun ⟨i,p,o2,nk2⟩=>⟨al [(0,.d (.sl 8 (l.map encD))),(3,.row p),(4,.d (.int .i64 i))],o2,nk2⟩) (fun ⟨i,p,o2,nk2⟩=>i≤l.length∧nk≤p∧p < nk2∧o2 p=some (.row 5 1 (bytesD (accDs l i)))∧(∀ t,t < nk→o2 t=o t)) (fun ⟨i,p,o2,nk2⟩=>l.length - i) (fun ⟨i,p,o2,nk2⟩ hA=>?_) ⟨0,q3,o3,nk3⟩ ?_ ?_
 ·
  obtain ⟨hle,hnp,hpn,hrw,hfr⟩:=hA;have hal:=accDs_len hma i hle;refine WP.seq fun K6 hK6=>?_;refine wr (um (um (un th28 ?_)));refine ub (u_nil ?_);refine wc (fun hc8=>?_) (fun hc8=>?_)
  ·
   simp at hc8;refine WP.skip (hK6 _ (WP.seq fun K9 hK9=>?_));refine WP.block ?_;have hil:i < l.length:=by omega
   obtain ⟨d,hd⟩:∃ d,d=l[i]:=⟨_,rfl⟩;have hgd:(l.map encD)[((i:Nat):Int).toNat]?=some (encD d):=by rw [hd];simp [hil]
   have hmd:mayD d=true:=hd ▸ hma _ (List.getElem_mem hil);have hkd:okD d:=hd ▸ hok _ (List.getElem_mem hil);have hp8:=(mayD_parts hmd).2.1;refine wr (um (um ?_));refine u_step (o_ia_sl rfl rfl th28 rfl th83 rfl (Int.natCast_nonneg _) hgd ?_);refine uL th83 ?_;refine u_step (g_alloc th83 rfl fun o11 hb11 hk11=>?_);have hrw_11:=(hk11 _ (by omega)).trans hrw;refine u_step0 (g_sta rfl rfl th83 rfl hb11 (by first | (simp;done) | (simp [D.leaves,D.width,valCells];done) | decide) fun o12 hb12 hk12=>?_);have hrw_12:=(hk12 _ (by omega)).trans hrw_11;refine u_nil (WP.seq fun K13 hK13=>?_);refine WP.dr3 [.q 0 0,.q 0 0,.q 0 0,.q 0 0,.q 0 0,.w 0,.q 0 1,.q 0 1,.q 0 1,.w 1,.w 2,.q 3 3] [5,9,10] ((nk2+1)+1) (((nk2+1)+1)+1) ((((nk2+1)+1)+1)+1) tabOk (by kernel_rfl) rfl (by kernel_rfl) (by kernel_rfl) ?_;apply Exists.intro;apply Exists.intro;apply Exists.intro;refine e_step rfl (o_moveV (v:=.row _) rfl ⟨rfl,rfl,rfl⟩) ?_;refine e_step rfl (o_fa_loc rfl th83 rfl rfl th3 (by decide) hb12 ⟨rfl,rfl,rfl⟩) ?_;refine e_step rfl (o_ld_loc rfl th3 rfl hb12 rfl ⟨rfl,rfl,rfl⟩) ?_;refine e_step rfl (o_cv_int rfl th3 th5 rfl ⟨rfl,rfl,rfl⟩) ?_;refine e_step rfl (o_bs rfl th52 rfl th5 rfl rfl (by decide) rfl (by decide) (by decide) ⟨rfl,rfl,rfl⟩) ?_;refine e_w rfl rfl (w_ap rfl rfl th52 rfl th5 rfl rfl (by decide) rfl hrw_12 (by simp only [List.length_append,bytesD_length,List.length_cons,List.length_nil];omega) (by simp only [List.length_append,bytesD_length,List.length_cons,List.length_nil];omega) ⟨rfl,rfl,rfl⟩) ?_;refine e_step2 rfl rfl (o_fa_loc rfl th83 rfl rfl th22 (by decide) hb12 ⟨rfl,rfl,rfl⟩) (o_fa_loc rfl th83 rfl rfl th22 (by decide) (((upd_ne _ _ (by omega)).trans (upd_ne _ _ (by omega))).trans hb12) ⟨rfl,rfl,rfl⟩) ?_;refine e_step2 rfl rfl (o_ld_loc rfl th22 rfl hb12 rfl ⟨rfl,rfl,rfl⟩) (o_ld_loc rfl th22 rfl (((upd_ne _ _ (by omega)).trans (upd_ne _ _ (by omega))).trans hb12) rfl ⟨rfl,rfl,rfl⟩) ?_;refine e_step2 rfl rfl (o_len_sl rfl th22 rfl ⟨rfl,rfl,rfl⟩) (o_len_sl rfl th22 rfl ⟨rfl,rfl,rfl⟩) ?_;refine e_w rfl rfl (w_rcall (s88 (d.path.map D.str).length) rfl ⟨rfl,rfl,rfl⟩) ?_;refine e_w rfl rfl (w_apr rfl rfl th52 rfl th5 rfl rfl (by decide) ((upd_ne _ _ (by omega)).trans (upd_same _ _ _)) (upd_same _ _ _) (by have:=grp_l (d.path.map D.str).length;simp only [List.length_append,bytesD_length,List.length_cons,List.length_nil];omega) (by have:=grp_l (d.path.map D.str).length;simp only [List.length_append,bytesD_length,List.length_cons,List.length_nil];omega) ⟨rfl,rfl,rfl⟩) ?_;refine e_step rfl (o_assignV (v:=.row _) rfl ⟨rfl,rfl,rfl⟩) ?_;refine e_nil rfl fun o17 ho17=>?_;have hbb11_17:=(ho17 _).trans (((upd_ne _ _ (by omega)).trans (upd_ne _ _ (by omega))).trans ((upd_ne _ _ (by omega)).trans (((upd_ne _ _ (by omega)).trans (upd_ne _ _ (by omega))).trans hb12)));have hbq15_17:=(ho17 _).trans (((upd_ne _ _ (by omega)).trans (upd_ne _ _ (by omega))).trans (upd_same _ _ _));have hbr16_17:=(ho17 _).trans (upd_same _ _ _);have hk17:∀ t,t < nk→o17 t=o12 t:=fun t ht=>(ho17 t).trans (((upd_ne _ _ (by omega)).trans (upd_ne _ _ (by omega))).trans ((upd_ne _ _ (by omega)).trans ((upd_ne _ _ (by omega)).trans (upd_ne _ _ (by omega)))));refine hK13 _ (WP.seq fun K18 hK18=>?_);refine wr (ua (u_nil (WP.block ?_)));refine WP.loopL (ι:=Nat×Nat×(Nat→Option AO)×Nat) (fun ⟨j,p3,o3,nk3⟩=>⟨al [(0,.d (.sl 8 (l.map encD))),(3,.row p3),(4,.d (.int .i64 i)),(5,.loc nk2 0),(6,.d (.int .i64 j))],o3,nk3⟩) (fun ⟨j,p3,o3,nk3⟩=>j≤d.path.length∧nk2 < p3∧p3 < nk3∧o3 nk2=some (.box (([.int .i64 d.kind,.sl 1 (d.path.map .str),.int .i64 d.value.kind,.int .i64 d.value.int,.str d.value.text,.sl 5 (encVs d.value.items),.sl 1 (d.value.names.map .str),.int .i64 d.n]:List D).map .d))∧o3 p3=some (.row 5 1 (bytesD (accDs l i++codD1 d j)))∧(∀ t,t < nk→o3 t=o t)) (fun ⟨j,p3,o3,nk3⟩=>d.path.length - j) (fun ⟨j,p3,o3,nk3⟩ hA=>?_) ⟨0,(((nk2+1)+1)+1),o17,((((nk2+1)+1)+1)+1)⟩ ?_ ?_
   ·
    obtain ⟨hlj,hnp3,hpn3,hob,hrw3,hfr3⟩:=hA;have hdl:=codD1_len (j:=j) hmd;refine WP.seq fun K20 hK20=>?_;refine wr (um (uf th83 th22 hob ?_));refine ul th22 hob ?_;refine un th22 ?_;refine ub (u_nil ?_);refine wc (fun hc22=>?_) (fun hc22=>?_)
    ·
     simp at hc22;refine WP.skip (hK20 _ (WP.seq fun K23 hK23=>?_));refine WP.block (WP.reg tabOk rfl ?_);refine uR (uf th83 th22 hob ?_);refine ul th22 hob ?_;refine um ?_
     refine u_step (o_ia_map rfl rfl th22 rfl th9 rfl (by omega) ?_)
     refine uL th9 ?_;refine u_step (o_rcall (s89 d.path[j] (by have:=List.all_eq_true.1 (mayD_parts hmd).1 _ (List.getElem_mem (by omega:j < d.path.length));simp only [nameV,decide_eq_true_eq] at this;omega)) rfl fun q24 o24 nk24 hqa24 hqb24 hb24 hk24=>?_);have hob_24:=(hk24 _ (by omega)).trans hob;have hrw3_24:=(hk24 _ (by omega)).trans hrw3;refine u_step (g_apr rfl rfl th52 rfl th5 rfl rfl (by decide) hrw3_24 hb24 (by have:=List.all_eq_true.1 (mayD_parts hmd).1 _ (List.getElem_mem (by omega:j < d.path.length));simp only [nameV,decide_eq_true_eq] at this;have:=grp_l d.path[j].length;simp only [List.length_append,bytesD_length];omega) (by have:=List.all_eq_true.1 (mayD_parts hmd).1 _ (List.getElem_mem (by omega:j < d.path.length));simp only [nameV,decide_eq_true_eq] at this;have:=grp_l d.path[j].length;simp only [List.length_append,bytesD_length];omega) fun o25 hb25 hk25=>?_);have hob_25:=(hk25 _ (by omega) (by omega)).trans hob_24;have hb24_25:=(hk25 _ (by omega) (by omega)).trans hb24;refine uS (u_nil (hK23 _ (WP.reg tabOk rfl ?_)));refine um (ub (ua (u_nil ?_)));refine ⟨⟨j+1,nk24,o25,(nk24+1)⟩,⟨by omega,by omega,by omega,hob_25,(hb25).trans (congrArg (fun z=>some (AO.row 5 1 z)) ((dcodeP (ys:=[]) (by omega)))),(fun t ht=>(hk25 t (by omega) (by omega)).trans ((hk24 t (by omega)).trans ((hfr3 t (by omega)))))⟩,by simp only;omega,?_⟩;refine Le.al ?_;simp only [List.forall_mem_cons];exact ⟨rfl,rfl,rfl,rfl,cnt (by omega),by simp⟩
    ·
     simp at hc22;refine WP.exit ?_;refine hK18 _ (wr (uf th83 th3 hob ?_));refine ul th3 hob ?_;refine u_nil (WP.block (wr (ub (ua (u_nil ?_)))));refine wc (fun hc28=>?_) (fun hc28=>?_)
     ·
      simp at hc28;refine WP.reg tabOk rfl ?_;refine uR (uf th83 th27 hob ?_);refine ug th27 hob ?_;refine u_step (o_rcall (rv1 (v:=d.value) (s90 d.value (check_may ((mayD_parts hmd).2.2.1 hc28)) hkd.1 hkd.2)) rfl fun q29 o29 nk29 hqa29 hqb29 hb29 hk29=>?_);have hob_29:=(hk29 _ (by omega)).trans hob;have hrw3_29:=(hk29 _ (by omega)).trans hrw3;refine u_step (g_apr rfl rfl th52 rfl th5 rfl rfl (by decide) hrw3_29 hb29 (by have hz:=(mayD_parts hmd).2.2.1 hc28;have:=codV_len (check_may hz);have:=check_size hz;simp only [List.length_append,bytesD_length];omega) (by have hz:=(mayD_parts hmd).2.2.1 hc28;have:=codV_len (check_may hz);have:=check_size hz;simp only [List.length_append,bytesD_length];omega) fun o30 hb30 hk30=>?_);have hob_30:=(hk30 _ (by omega) (by omega)).trans hob_29;have hb29_30:=(hk30 _ (by omega) (by omega)).trans hb29;refine uS (u_nil (hK9 _ (WP.reg tabOk rfl ?_)));refine um (ub (ua (u_nil ?_)));refine ⟨⟨i+1,nk29,o30,(nk29+1)⟩,⟨by omega,by omega,by omega,(hb30).trans (congrArg (fun z=>some (AO.row 5 1 z)) ((dcodeE (ys:=[]) hil hd (by omega) (by simp only [codDv];rw [if_pos hc28])))),(fun t ht=>(hk30 t (by omega) (by omega)).trans ((hk29 t (by omega)).trans ((hfr3 t (by omega)))))⟩,by simp only;omega,?_⟩;refine Le.al ?_;simp only [List.forall_mem_cons];exact ⟨rfl,rfl,cnt (by omega),by simp⟩
     ·
      simp at hc28;refine wr (ub (ua (u_nil ?_)));refine wc (fun hc32=>?_) (fun hc32=>?_)
      ·
       simp at hc32;refine WP.reg tabOk rfl ?_;refine uR (uf th83 th3 hob ?_);refine ul th3 hob ?_;refine u_step (o_rcall (s88 d.n) rfl fun q33 o33 nk33 hqa33 hqb33 hb33 hk33=>?_);have hob_33:=(hk33 _ (by omega)).trans hob;have hrw3_33:=(hk33 _ (by omega)).trans hrw3;refine u_step (g_apr rfl rfl th52 rfl th5 rfl rfl (by decide) hrw3_33 hb33 (by have:=grp_l d.n;simp only [List.length_append,bytesD_length];omega) (by have:=grp_l d.n;simp only [List.length_append,bytesD_length];omega) fun o34 hb34 hk34=>?_);have hob_34:=(hk34 _ (by omega) (by omega)).trans hob_33;have hb33_34:=(hk34 _ (by omega) (by omega)).trans hb33;refine uS (u_nil (hK9 _ (WP.reg tabOk rfl ?_)));refine um (ub (ua (u_nil ?_)));refine ⟨⟨i+1,nk33,o34,(nk33+1)⟩,⟨by omega,by omega,by omega,(hb34).trans (congrArg (fun z=>some (AO.row 5 1 z)) ((dcodeE (ys:=[]) hil hd (by omega) (by simp only [codDv];rw [if_neg (by omega),if_pos hc32])))),(fun t ht=>(hk34 t (by omega) (by omega)).trans ((hk33 t (by omega)).trans ((hfr3 t (by omega)))))⟩,by simp only;omega,?_⟩;refine Le.al ?_;simp only [List.forall_mem_cons];exact ⟨rfl,rfl,cnt (by omega),by simp⟩
      ·
       simp at hc32;refine WP.skip (hK9 _ (WP.reg tabOk rfl ?_));refine um (ub (ua (u_nil ?_)));refine ⟨⟨i+1,p3,o3,nk3⟩,⟨by omega,by omega,by omega,(hrw3).trans (congrArg (fun z=>some (AO.row 5 1 z)) ((dcodeN (ys:=[]) hil hd (by omega) (by omega) (by omega)))),(fun t ht=>(hfr3 t (by omega)))⟩,by simp only;omega,?_⟩;refine Le.al ?_;simp only [List.forall_mem_cons];exact ⟨rfl,rfl,cnt (by omega),by simp⟩
   ·
    refine ⟨by omega,by omega,by omega,hbb11_17,(hbr16_17).trans (congrArg (fun z=>some (AO.row 5 1 z)) ((dcode1 (ys:=[]) (by simp)))),(fun t ht=>(hk17 t (by omega)).trans ((hk12 t (by omega)).trans ((hk11 t (by omega)).trans ((hfr t (by omega))))))⟩
   ·
    refine Le.al ?_;simp only [List.forall_mem_cons];exact ⟨rfl,rfl,rfl,rfl,rfl,by simp⟩
  ·
   simp at hc8;refine WP.exit ?_;refine hK4 _ (wr (uR (uS (u_nil (WP.ret ?_)))));refine rrow_okx rfl (by omega) (by omega) hrw (fun t ht=>(hfr t (by omega))) ?_;rw [accDs_end (by omega)]
 ·
  refine ⟨by omega,by omega,by omega,(hb3).trans (congrArg (fun z=>some (AO.row 5 1 z)) ((dcode0 (ys:=[]) (by simp)))),(fun t ht=>(hk3 t (by omega)))⟩
 ·
  refine Le.al ?_;simp only [List.forall_mem_cons];exact ⟨rfl,rfl,rfl,by simp⟩
def kindIn (ks k:Int):Bool:=decide (ks / ((2 ^ k.toNat:Nat):Int) % 2=1)
theorem and_tab:∀ n:Nat,n < 256→∀ k:Nat,k < 8→(bitsOf .and .i64 (n:Int) ((2 ^ k:Nat):Int) == 0)=!decide ((n:Int) / ((2 ^ k:Nat):Int) % 2=1):=by decide +kernel
theorem or_tab:∀ n:Nat,n < 256→∀ k:Nat,k < 8→bitsOf .or .i64 (n:Int) ((2 ^ k:Nat):Int)=((n ||| 2 ^ k:Nat):Int)∧n ||| 2 ^ k < 256:=by decide +kernel
theorem low_tab:∀ n:Nat,n < 256→n % 4=0→n &&& 18446744073709551363=0:=by decide +kernel
theorem and_kind {ks k:Int} (h1:0≤ks) (h2:ks < 256) (h3:0≤k) (h4:k≤7):(bitsOf .and .i64 ks ((2 ^ k.toNat:Nat):Int) == 0)=!kindIn ks k:=by
 obtain ⟨n,rfl⟩:=Int.eq_ofNat_of_zero_le h1;exact and_tab n (by omega) k.toNat (by omega)
theorem quo_kind {ks k:Int} (h1:0≤ks) (h2:ks < 256):(IntKind.i64.wrap (ks.tdiv ((2 ^ k.toNat:Nat):Int))).tmod 2=ks / ((2 ^ k.toNat:Nat):Int) % 2:=by
 have hp:(0:Int) < ((2 ^ k.toNat:Nat):Int):=by have:=Nat.two_pow_pos k.toNat;omega
 have hd:0≤ks / ((2 ^ k.toNat:Nat):Int):=Int.ediv_nonneg h1 (by omega);have hle:ks / ((2 ^ k.toNat:Nat):Int)≤ks:=Int.ediv_le_self _ h1;rw [Int.tdiv_eq_ediv_of_nonneg h1,wrap_i64 (by omega) (by omega),Int.tmod_eq_emod_of_nonneg hd]
theorem shl1 {k:Int} (h:0≤k) (h2:k≤62):shBin .shl .i64 1 k=some (.int .i64 ((2 ^ k.toNat:Nat):Int)):=by
 have h62:∀ j:Nat,j < 63→IntKind.i64.wrap (1 * 2 ^ min j 64)=((2 ^ j:Nat):Int):=by decide +kernel
 simp only [shBin];rw [if_neg (by omega)];exact congrArg (fun m:Int=>some (D.int .i64 m)) (h62 k.toNat (by omega))
theorem andNot252 {x:Int} (h1:-9223372036854775808≤x) (h2:x≤9223372036854775807):(bitsOf .andNot .i64 x 252 == 0)=(decide (0≤x) && decide (x < 256) && decide (x % 4=0)):=by
 have hn:(BitVec.ofInt 64 x &&& ~~~(BitVec.ofInt 64 252)).toNat=(BitVec.ofInt 64 x).toNat &&& 18446744073709551363:=by
  rw [BitVec.toNat_and];rfl
 have hx:(BitVec.ofInt 64 x).toNat=(x % 18446744073709551616).toNat:=by rw [BitVec.toNat_ofInt];rfl
 have e:bitsOf .andNot .i64 x 252=IntKind.i64.wrap (((x % 18446744073709551616).toNat &&& 18446744073709551363:Nat):Int):=by
  show IntKind.i64.wrap ((BitVec.ofInt 64 x &&& ~~~(BitVec.ofInt 64 252)).toNat:Int)=_;rw [hn,hx]
 rw [e];generalize hm:(x % 18446744073709551616).toNat=n;have hlt:n < 18446744073709551616:=by omega
 have hy:n &&& 18446744073709551363 < 18446744073709551616:=Nat.lt_of_le_of_lt Nat.and_le_left hlt;have hw:IntKind.i64.wrap ((n &&& 18446744073709551363:Nat):Int)=0↔n &&& 18446744073709551363=0:=by
  rw [IntKind.wrap_i64];omega
 have hz:n &&& 18446744073709551363=0↔n < 256∧n % 4=0:=by
  constructor
  ·intro h;have h4:n % 4=0:=by
    have a:n &&& 3=n % 4:=Nat.and_two_pow_sub_one_eq_mod n 2;have b:(n &&& 18446744073709551363) &&& 3=n &&& 3:=by rw [Nat.and_assoc,show (18446744073709551363 &&& 3:Nat)=3 from by decide]
    rw [← a,← b,h];rfl
   have h8:n / 256=0:=by
    have a:(n &&& 18446744073709551363) >>> 8=(n >>> 8) &&& (18446744073709551363 >>> 8):=Nat.shiftRight_and_distrib;rw [h] at a;have b:n >>> 8=n / 256:=Nat.shiftRight_eq_div_pow n 8;have c:(n / 256) &&& 72057594037927935=(n / 256) % 72057594037927936:=Nat.and_two_pow_sub_one_eq_mod _ 56;rw [b] at a;have d:(0:Nat) >>> 8=0:=rfl;have e:(18446744073709551363:Nat) >>> 8=72057594037927935:=rfl;rw [d,e,c] at a;omega
   omega
  ·rintro ⟨h,h'⟩;exact low_tab n h h'
 rw [Bool.eq_iff_iff];simp only [beq_iff_eq,Bool.and_eq_true,decide_eq_true_eq,hw,hz];omega
def ofN:List Int→Nat→Nat
 | [],x=>x
 | k :: r,x=>ofN r (if 1 < k∧k≤7 then x ||| 2 ^ k.toNat else x)
theorem ofN_snoc:∀ (l:List Int) (k:Int) (x:Nat),ofN (l++[k]) x=if 1 < k∧k≤7 then ofN l x ||| 2 ^ k.toNat else ofN l x
 | [],k,x=>rfl
 | y :: l,k,x=>by simp only [List.cons_append,ofN];exact ofN_snoc l k _
theorem ofN_lt:∀ (l:List Int) (x:Nat),x < 256→ofN l x < 256
 | [],x,h=>h
 | k :: l,x,h=>by
  simp only [ofN];refine ofN_lt l _ ?_;split
  ·exact (or_tab x h k.toNat (by omega)).2
  ·exact h
theorem ofN_take {l:List Int} {i:Nat} (h:i < l.length):ofN (l.take (i+1)) 0=if 1 < l[i]'h∧l[i]'h≤7 then ofN (l.take i) 0 ||| 2 ^ (l[i]'h).toNat else ofN (l.take i) 0:=by
 rw [List.take_succ_eq_append_getElem h,ofN_snoc]
def mayF (f:Flt):Bool:=(decide (f.coll=[]) || collV f.coll) && (decide (f.path.length=0) || pathV f.path) && (decide (0≤f.kinds) && decide (f.kinds < 256) && decide (f.kinds % 4=0))
structure OkF (f:Flt):Prop where
 lo:-9223372036854775808≤f.kinds
 hi:f.kinds≤9223372036854775807
theorem fn23:FnOk Tryz.prog 23 24 [2] (bodyOf Tryz.f23):=⟨Tryz.f23,Tryz.func23,by kernel_rfl,by decide,by kernel_rfl,by kernel_rfl⟩
theorem s23 (l:List Int):PSpec Tryz.prog 23 [.d (.sl 1 (l.map (D.int .i64)))] (.d (.int .i64 (ofN l 0:Nat))):=by
 refine PSpec.bd fun hbd=>?_;have hx:l.length≤9223372036854775807:=by simpa using hbd.1.1
 refine PSpec.of fn23 (by simp) fun o nk=>?_;refine wr (ua (u_nil (wr (ua (u_nil (WP.seq fun K3 hK3=>?_))))));refine wr (um (un th37 ?_));refine um (u_nil (WP.block ?_));refine WP.loopL (ι:=Nat) (fun i=>⟨al [(3,.d (.int .i64 (ofN (l.take i) 0:Nat))),(6,.d (.sl 1 (l.map (D.int .i64)))),(7,.d (.int .i64 (l.map (D.int .i64)).length)),(8,.d (.int .i64 i))],o,nk⟩) (fun i=>i≤l.length∧True) (fun i=>l.length - i) (fun i hA=>?_) 0 ?_ ?_
 ·
  obtain ⟨hle_i,hin_i⟩:=hA;refine wr ?_;refine ub ?_;refine u_nil ?_;refine WP.seq fun K6 hK6=>?_;refine wc (fun hc7=>?_) (fun hc7=>?_) <;> try simp only [Q0,Q1,Q2,Q3,Q4,Q5,Q6,Q7,Q8,ge_iff_le,gt_iff_lt] at hc7
  ·
   refine WP.skip (hK6 _ (WP.seq fun K8 hK8=>?_));refine WP.block (wr ?_)
   refine u_step (o_ia_map rfl rfl th37 rfl th3 rfl (by omega) ?_)
   refine uL th3 ?_;refine ua (u_nil (wr (um (ub (um ?_)))));apply gT
   ·rfl
   ·intro hg;exact pm
   apply gT
   ·rfl
   ·intro hg;try simp only [hg,ct,Bt]
    exact pb
   refine uA ?_;refine u_nil ?_;refine wc (fun hc11=>?_) (fun hc11=>?_) <;> try simp only [Q0,Q1,Q2,Q3,Q4,Q5,Q6,Q7,Q8,ge_iff_le,gt_iff_lt] at hc11
   ·
    have hk:1 < l[i]∧l[i]≤7:=by simpa using hc11
    refine WP.reg tabOk rfl ?_;refine um (um ?_);refine u_step (o_bin_sh rfl rfl (shl1 (by omega) (by omega)) ?_);refine ub (ua (u_nil (hK8 _ (WP.reg tabOk rfl ?_))));refine ub (um (u_nil ?_));have hot:=ofN_take (l:=l) (i:=i) (by omega);have hlt:=ofN_lt (l.take i) 0 (by omega);refine ⟨i+1,⟨by omega,trivial⟩,by omega,?_⟩;refine Le.al ?_;simp only [List.forall_mem_cons];refine ⟨?_,rfl,rfl,cnt (by omega),by simp⟩;have hl:=hc11
    first | (rw [hot,if_pos hk,← (or_tab _ hlt l[i].toNat (by omega)).1];rfl) | (rw [hot,if_neg (by simpa using hl)];rfl)
   ·
    refine WP.skip (hK8 _ (WP.reg tabOk rfl ?_));refine ub (um (u_nil ?_));have hot:=ofN_take (l:=l) (i:=i) (by omega);have hlt:=ofN_lt (l.take i) 0 (by omega);refine ⟨i+1,⟨by omega,trivial⟩,by omega,?_⟩;refine Le.al ?_;simp only [List.forall_mem_cons];refine ⟨?_,rfl,rfl,cnt (by omega),by simp⟩;have hl:=hc11
    first | (rw [hot,if_pos hk,← (or_tab _ hlt l[i].toNat (by omega)).1];rfl) | (rw [hot,if_neg (by simpa using hl)];rfl)
  ·
   refine WP.exit ?_;refine hK3 _ (wr (um (ua (u_nil (WP.ret ?_)))));refine ret_ok rfl ?_ (by omega) (fun _ _=>rfl);rw [List.take_of_length_le (by omega)]
 ·
  simp
 ·
  refine Le.al ?_;simp only [List.forall_mem_cons];exact ⟨rfl,rfl,rfl,rfl,by simp⟩
theorem fn57:FnOk Tryz.prog 57 3 [0] (bodyOf Tryz.f57):=⟨Tryz.f57,Tryz.func57,by kernel_rfl,by decide,by kernel_rfl,by kernel_rfl⟩
theorem s57:PSpec Tryz.prog 57 [] (.d (.int .i64 252)):=by
 refine PSpec.of fn57 (by simp) fun o nk=>?_;refine wr (ua (u_nil (wr ?_)));refine u_step (o_bs rfl th37 rfl th3 rfl rfl (by decide) rfl (by decide) (by decide) ?_);refine u_step (o_pcall (s23 [2,3,4,5,6,7]) rfl ?_);refine ua (u_nil (WP.ret ?_));refine ret_ok rfl ?_ (by omega) (fun _ _=>rfl);rfl
theorem fn15:FnOk Tryz.prog 15 28 [2] (bodyOf Tryz.f15):=⟨Tryz.f15,Tryz.func15,by kernel_rfl,by decide,by kernel_rfl,by kernel_rfl⟩
theorem s15 (f:Flt) (ok:OkF f):PSpec Tryz.prog 15 [.d (encF f)] (.d (.bool (mayF f))):=by
 have hn:=andNot252 ok.lo ok.hi;refine PSpec.of fn15 (by simp) fun o nk=>?_;refine wr ?_;refine u_step (g_box rfl fun o2 hb2 hk2=>?_);refine ua (u_nil (WP.seq fun K3 hK3=>?_));refine WP.block (WP.seq fun K4 hK4=>?_);refine wr (uf th24 th9 hb2 ?_);refine ul th9 hb2 ?_;refine u_step (o_bin_str rfl (show _=SV.d (.str []) from rfl) rfl ?_);refine um ?_;apply gT
 ·rfl
 ·intro hg;exact pf th24 th9 hb2
 apply gT
 ·rfl
 ·intro hg;try simp only [hg,ct,Bt]
  exact pl th9 hb2
 apply gT
 ·rfl
 ·intro hg;try simp only [hg,ct,Bt]
  refine o_pcall (s48 f.coll) rfl ⟨rfl,rfl,rfl⟩
 apply gT
 ·rfl
 ·intro hg;try simp only [hg,ct,Bt]
  exact pN
 refine uA ?_;refine ua ?_;refine u_nil ?_;refine wc (fun hc6=>?_) (fun hc6=>?_) <;> try simp only [Q0,Q1,Q2,Q3,Q4,Q5,Q6,Q7,Q8,ge_iff_le,gt_iff_lt] at hc6
 ·
  refine WP.skip ?_;refine hK4 _ ?_;refine wc (fun hc7=>?_) (fun hc7=>?_) <;> try simp only [Q0,Q1,Q2,Q3,Q4,Q5,Q6,Q7,Q8,ge_iff_le,gt_iff_lt] at hc7
  ·
   refine wr (ua (u_nil (WP.ret ?_)));refine ret_ok rfl ?_ (by omega) (fun t ht=>(hk2 t (by omega)));clear hK3 hK4;refine congrArg D.bool ?_;simp only [mayF,List.length_map] at *
   grind
  ·
   refine WP.skip (hK3 _ (wd ?_));refine df th24 th3 hb2 ?_;refine dl th3 hb2 ?_;refine d_step (o_pcall (s57) rfl ⟨rfl,rfl,rfl⟩) ?_;refine db ?_;refine db ?_;refine da ?_;refine d_nil ?_;refine WP.ret ?_;refine ret_ok rfl ?_ (by omega) (fun t ht=>(hk2 t (by omega)));clear hK3 hK4;refine congrArg D.bool ?_;simp only [mayF,List.length_map] at *
   grind
 ·
  refine WP.reg tabOk rfl ?_;refine uf th24 th22 hb2 ?_;refine ul th22 hb2 ?_;refine un th22 ?_;refine ub (um ?_);apply gT
  ·rfl
  ·intro hg;exact pf th24 th22 hb2
  apply gT
  ·rfl
  ·intro hg;try simp only [hg,ct,Bt]
   exact pl th22 hb2
  apply gT
  ·rfl
  ·intro hg;try simp only [hg,ct,Bt]
   refine o_pcall (s56 f.path) rfl ⟨rfl,rfl,rfl⟩
  apply gT
  ·rfl
  ·intro hg;try simp only [hg,ct,Bt]
   exact pN
  refine uA ?_;refine ua ?_;refine u_nil ?_;refine hK4 _ ?_;refine wc (fun hc10=>?_) (fun hc10=>?_) <;> try simp only [Q0,Q1,Q2,Q3,Q4,Q5,Q6,Q7,Q8,ge_iff_le,gt_iff_lt] at hc10
  ·
   refine wr (ua (u_nil (WP.ret ?_)));refine ret_ok rfl ?_ (by omega) (fun t ht=>(hk2 t (by omega)));clear hK3 hK4;refine congrArg D.bool ?_;simp only [mayF,List.length_map] at *
   grind
  ·
   refine WP.skip (hK3 _ (wd ?_));refine df th24 th3 hb2 ?_;refine dl th3 hb2 ?_;refine d_step (o_pcall (s57) rfl ⟨rfl,rfl,rfl⟩) ?_;refine db ?_;refine db ?_;refine da ?_;refine d_nil ?_;refine WP.ret ?_;refine ret_ok rfl ?_ (by omega) (fun t ht=>(hk2 t (by omega)));clear hK3 hK4;refine congrArg D.bool ?_;simp only [mayF,List.length_map] at *
   grind
theorem fn16:FnOk Tryz.prog 16 38 [2] (bodyOf Tryz.f16):=⟨Tryz.f16,Tryz.func16,by kernel_rfl,by decide,by kernel_rfl,by kernel_rfl⟩
theorem s16 (f:Flt):PSpec Tryz.prog 16 [.d (encF f)] (.d (.bool (mayF f))):=by
 refine PSpec.of fn16 (by simp) fun o nk=>?_;refine wr ?_;refine u_step (g_box rfl fun o2 hb2 hk2=>?_);refine ua (u_nil (WP.seq fun K3 hK3=>?_));refine wr (uf th24 th9 hb2 ?_);refine ul th9 hb2 ?_;refine u_step (o_bin_str rfl (show _=SV.d (.str []) from rfl) rfl ?_);refine um ?_;apply gT
 ·rfl
 ·intro hg;exact pf th24 th9 hb2
 apply gT
 ·rfl
 ·intro hg;try simp only [hg,ct,Bt]
  exact pl th9 hb2
 apply gT
 ·rfl
 ·intro hg;try simp only [hg,ct,Bt]
  refine o_pcall (s49 f.coll) rfl ⟨rfl,rfl,rfl⟩
 apply gT
 ·rfl
 ·intro hg;try simp only [hg,ct,Bt]
  exact pN
 refine uA (um ?_);apply gF
 ·rfl
 ·intro hg;exact pf th24 th22 hb2
 apply gF
 ·rfl
 ·intro hg;try simp only [hg,ct,Bt]
  exact pl th22 hb2
 apply gF
 ·rfl
 ·intro hg;try simp only [hg,ct,Bt]
  exact pn th22
 apply gF
 ·rfl
 ·intro hg;try simp only [hg,ct,Bt]
  exact pb
 apply gF
 ·rfl
 ·intro hg;try simp only [hg,ct,Bt]
  exact pm
 apply u_guard
 ·exact GC.ct _ _
 ·intro hg;exact pf th24 th22 hb2
 apply u_guard
 ·exact GC.ct _ _
 ·intro hg;try simp only [hg,ct,Bt]
  exact pl th22 hb2
 apply u_guard
 ·exact GC.ct _ _
 ·intro hg;try simp only [hg,ct,Bt]
  refine o_pcall (s58 f.path) rfl ⟨rfl,rfl,rfl⟩
 apply u_guard
 ·exact GC.ct _ _
 ·intro hg;try simp only [hg,ct,Bt]
  exact pN
 apply gF
 ·rfl
 ·intro hg;try simp only [hg,ct,Bt]
  exact pA
 refine uO ?_;refine u_nil ?_;refine wc (fun hc5=>?_) (fun hc5=>?_) <;> try simp only [Q0,Q1,Q2,Q3,Q4,Q5,Q6,Q7,Q8,ge_iff_le,gt_iff_lt] at hc5
 ·
  refine wr (ua (u_nil (WP.ret ?_)));refine ret_ok rfl ?_ (by omega) (fun t ht=>(hk2 t (by omega)));clear hK3;refine congrArg D.bool ?_;have ht:0≤f.kinds→f.kinds.tmod 4=f.kinds % 4:=fun h=>Int.tmod_eq_emod_of_nonneg h;simp only [mayF,List.length_map] at *
  grind
 ·
  refine WP.skip (hK3 _ (wr (uf th24 th3 hb2 ?_)));refine ul th3 hb2 ?_;refine ub (um ?_);apply gT
  ·rfl
  ·intro hg;exact pf th24 th3 hb2
  apply gT
  ·rfl
  ·intro hg;try simp only [hg,ct,Bt]
   exact pl th3 hb2
  apply gT
  ·rfl
  ·intro hg;try simp only [hg,ct,Bt]
   exact pb
  refine uA (um ?_);apply gT
  ·rfl
  ·intro hg;exact pf th24 th3 hb2
  apply gT
  ·rfl
  ·intro hg;try simp only [hg,ct,Bt]
   exact pl th3 hb2
  apply gT
  ·rfl
  ·intro hg;try simp only [hg,ct,Bt]
   exact pb
  apply gT
  ·rfl
  ·intro hg;try simp only [hg,ct,Bt]
   exact pb
  refine uA (ua (u_nil (WP.ret ?_)));refine ret_ok rfl ?_ (by omega) (fun t ht=>(hk2 t (by omega)));clear hK3;refine congrArg D.bool ?_;have ht:0≤f.kinds→f.kinds.tmod 4=f.kinds % 4:=fun h=>Int.tmod_eq_emod_of_nonneg h;simp only [mayF,List.length_map] at *
  grind
theorem fn59:FnOk Tryz.prog 59 11 [4] (bodyOf Tryz.f59):=⟨Tryz.f59,Tryz.func59,by kernel_rfl,by decide,by kernel_rfl,by kernel_rfl⟩
theorem s59 (f:Flt) (e:Etr) (okf:OkF f) (ok:OkE e):PSpec Tryz.prog 59 [.d (encF f),.d (encE e)] (.d (.bool (mayF f && mayE e))):=by
 refine PSpec.of fn59 (by simp) fun o nk=>?_;refine wr ?_;refine u_step (g_box rfl fun o2 hb2 hk2=>?_);refine u_step (g_box rfl fun o3 hb3 hk3=>?_);have hb2_3:=(hk3 _ (by omega)).trans hb2;refine ua (u_nil (wr (ug th24 hb2_3 ?_)));refine u_step (o_pcall (s15 f okf) rfl ?_);refine um ?_;apply gT
 ·rfl
 ·intro hg;exact pg th30 hb3
 apply gT
 ·rfl
 ·intro hg;try simp only [hg,ct,Bt]
  refine o_pcall (s45 e ok) rfl ⟨rfl,rfl,rfl⟩
 refine uA (ua (u_nil (WP.ret ?_)));refine ret_ok rfl ?_ (by omega) (fun t ht=>(hk3 t (by omega)).trans ((hk2 t (by omega))));rfl
def ofCollV (f:Flt) (e:Etr):Bool:=decide (f.coll=[]) || decide (e.coll=f.coll) || (decide (e.kind=7) && decide (e.to=f.coll))
def atPathV (f:Flt) (e:Etr):Bool:=if f.path.length=0 then true else if e.kind=2 then (getP e.doc f.path).isSome else if e.kind=3 then touchD e.deltas f.path else true
noncomputable def matchV (f:Flt) (e:Etr):Bool:=mayF f && mayE e && !decide (e.kind=1) && (decide (f.kinds=0) || kindIn f.kinds e.kind) && ofCollV f e && atPathV f e
noncomputable def endsV (f:Flt) (e:Etr):Bool:=mayF f && mayE e && !decide (f.coll=[]) && (decide (e.kind=6) || decide (e.kind=7)) && decide (e.coll=f.coll)
theorem mayF_kinds {f:Flt} (h:mayF f=true):0≤f.kinds∧f.kinds < 256:=by
 simp only [mayF,Bool.and_eq_true,decide_eq_true_eq] at h;exact h.2.1
theorem mayE_kind {e:Etr} (h:mayE e=true):1≤e.kind∧e.kind≤7:=by
 simp only [mayE,Bool.and_eq_true,decide_eq_true_eq] at h
 grind
theorem mayE_doc {e:Etr} (h:mayE e=true) (hk:e.kind=2):e.doc.kind=7∧checkV e.doc=0:=by
 simp only [mayE,valuesE,Bool.and_eq_true] at h;have h1:=h.2.1.2;rw [hk] at h1;simp only [hasD,mayDocV] at h1;simp at h1;exact ⟨h1.1,h1.2.1⟩
theorem mayF_path {f:Flt} (h:mayF f=true) (hp:¬ f.path.length=0):pathV f.path=true:=by
 simp only [mayF,Bool.and_eq_true,Bool.or_eq_true,decide_eq_true_eq] at h;exact h.1.2.resolve_left hp
theorem getP_doc {f:Flt} {e:Etr} (hf:mayF f=true) (he:mayE e=true) (hk:e.kind=2) (hp:¬ f.path.length=0):getP e.doc f.path=getV e.doc f.path:=by
 obtain ⟨h1,h2⟩:=mayE_doc he hk;unfold getP;rw [if_pos ⟨h1,check_may h2,mayF_path hf hp⟩]
theorem match_at {f:Flt} {e:Etr} (hmf:mayF f=true) (hme:mayE e=true) (hk1:¬ e.kind=1) (hkn:(decide (f.kinds=0) || kindIn f.kinds e.kind)=true) (hco:ofCollV f e=true):matchV f e=atPathV f e:=by
 simp only [matchV,hmf,hme,hkn,hco,hk1,decide_false,Bool.not_false,Bool.and_true,Bool.true_and]
theorem o_ia_G {P:Program} {Θ:Tab} {K:SV→(Nat→Option AO)→Nat→Prop} {sl:Nat→SV} {o:Nat→Option AO} {nk:Nat} {x ix:Operand} {t e:Nat} {α:Type} {i j:TI} {z:Nat} {xs:List α} {g:α→D} {k:IntKind} {m:Nat} (d0:α) (hx:ev sl x=.d (.sl z (xs.map g))) (hy:ev sl ix=.d (.int k (m:Int))) (hi:Θ t=some i) (hk:i.k=.slice e) (hj:Θ e=some j) (hz:z=j.sz) (hlt:m < xs.length) (h:K (.el (g (xs.getD m d0))) o nk):vOp P Θ (.indexAddr t x ix) ⟨sl,o,nk⟩ K:=o_ia_mapG d0 hx hy hi hk hj hz hlt h
theorem ent_bd {e:Etr} (h:D.bd (encE e)):e.deltas.length≤9223372036854775807:=by
 simp only [encE,D.bd,valCells,List.cons_append,List.nil_append,D.bds,List.length_map] at h;exact h.2.2.2.2.2.2.2.2.2.2.2.2.2.2.1.1
instance:Inhabited Dlt:=⟨⟨0,[],zeroV,0⟩⟩
theorem fn60:FnOk Tryz.prog 60 27 [4] (bodyOf Tryz.f60):=⟨Tryz.f60,Tryz.func60,by kernel_rfl,by decide,by kernel_rfl,by kernel_rfl⟩
theorem s60 (f:Flt) (e:Etr):PSpec Tryz.prog 60 [.d (encF f),.d (encE e)] (.d (.bool (ofCollV f e))):=by
 refine PSpec.of fn60 (by simp) fun o nk=>?_;refine wr ?_;refine u_step (g_box rfl fun o2 hb2 hk2=>?_);refine u_step (g_box rfl fun o3 hb3 hk3=>?_);have hb2_3:=(hk3 _ (by omega)).trans hb2;refine ua (u_nil (wr (uf th24 th9 hb2_3 ?_)));refine ul th9 hb2_3 ?_;refine u_step (o_bin_str rfl (show _=SV.d (.str []) from rfl) rfl ?_);refine um ?_;apply gF
 ·rfl
 ·intro hg;exact pf th30 th9 hb3
 apply gF
 ·rfl
 ·intro hg;try simp only [hg,ct,Bt]
  exact pl th9 hb3
 apply gF
 ·rfl
 ·intro hg;exact pf th24 th9 hb2_3
 apply gF
 ·rfl
 ·intro hg;try simp only [hg,ct,Bt]
  exact pl th9 hb2_3
 apply gF
 ·rfl
 ·intro hg;try simp only [hg,ct,Bt]
  exact ps
 refine uO (um ?_);apply gF
 ·rfl
 ·intro hg;exact pf th30 th3 hb3
 apply gF
 ·rfl
 ·intro hg;try simp only [hg,ct,Bt]
  exact pl th3 hb3
 apply gF
 ·rfl
 ·intro hg;try simp only [hg,ct,Bt]
  exact pb
 apply gF
 ·rfl
 ·intro hg;try simp only [hg,ct,Bt]
  exact pm
 apply u_guard
 ·exact GC.ct _ _
 ·intro hg;exact pf th30 th9 hb3
 apply u_guard
 ·exact GC.ct _ _
 ·intro hg;try simp only [hg,ct,Bt]
  exact pl th9 hb3
 apply u_guard
 ·exact GC.ct _ _
 ·intro hg;exact pf th24 th9 hb2_3
 apply u_guard
 ·exact GC.ct _ _
 ·intro hg;try simp only [hg,ct,Bt]
  exact pl th9 hb2_3
 apply u_guard
 ·exact GC.ct _ _
 ·intro hg;try simp only [hg,ct,Bt]
  exact ps
 apply gF
 ·rfl
 ·intro hg;try simp only [hg,ct,Bt]
  exact pA
 refine uO (ua (u_nil (WP.ret ?_)));refine ret_ok rfl ?_ (by omega) (fun t ht=>(hk3 t (by omega)).trans ((hk2 t (by omega))));refine congrArg D.bool ?_;simp only [ofCollV];rw [Bool.eq_iff_iff];simp only [Bool.or_eq_true,Bool.and_eq_true,decide_eq_true_eq,beq_iff_eq]
theorem fn61:FnOk Tryz.prog 61 34 [4] (bodyOf Tryz.f61):=⟨Tryz.f61,Tryz.func61,by kernel_rfl,by decide,by kernel_rfl,by kernel_rfl⟩
theorem s61 (f:Flt) (e:Etr) (okf:OkF f) (ok:OkE e):PSpec Tryz.prog 61 [.d (encF f),.d (encE e)] (.d (.bool (atPathV f e))):=by
 refine PSpec.of fn61 (by simp) fun o nk=>?_;refine wr ?_;refine u_step (g_box rfl fun o2 hb2 hk2=>?_);refine u_step (g_box rfl fun o3 hb3 hk3=>?_);have hb2_3:=(hk3 _ (by omega)).trans hb2;refine ua ?_;refine u_nil ?_;refine WP.seq fun K4 hK4=>?_;refine WP.block ?_;refine wr ?_;refine uf th24 th22 hb2_3 ?_;refine ul th22 hb2_3 ?_;refine un th22 ?_;refine ub ?_;refine ua ?_;refine u_nil ?_;refine wc (fun hc6=>?_) (fun hc6=>?_) <;> try simp only [Q0,Q1,Q2,Q3,Q4,Q5,Q6,Q7,Q8,ge_iff_le,gt_iff_lt] at hc6
 ·
  refine wr (ua (u_nil (WP.ret ?_)));refine ret_ok rfl ?_ (by omega) (fun t ht=>(hk3 t (by omega)).trans ((hk2 t (by omega))));clear hK4;refine congrArg D.bool ?_;simp only [atPathV,List.length_map] at *
  grind
 ·
  refine wr ?_;refine uf th30 th3 hb3 ?_;refine ul th3 hb3 ?_;refine ub ?_;refine ua ?_;refine u_nil ?_;refine wc (fun hc9=>?_) (fun hc9=>?_) <;> try simp only [Q0,Q1,Q2,Q3,Q4,Q5,Q6,Q7,Q8,ge_iff_le,gt_iff_lt] at hc9
  ·
   refine wr (uf th30 th27 hb3 ?_);refine ug th27 hb3 ?_;refine uf th24 th22 hb2_3 ?_;refine ul th22 hb2_3 ?_;refine u_step (o_pcall (pv2 (v:=e.doc) (s114 e.doc f.path ok.sd)) rfl ?_);refine u_step (o_moveV (v:=.tup _) rfl ?_);refine ue (ue ?_);refine u_step (g_alloc th27 rfl fun o11 hb11 hk11=>?_);have hb2_11:=(hk11 _ (by omega)).trans hb2_3;have hb3_11:=(hk11 _ (by omega)).trans hb3;refine u_step0 (g_sta rfl (congrArg SV.d (encV_eq _)) th27 rfl hb11 (by simp [valCells]) fun o12 hb12 hk12=>?_);have hb2_12:=(hk12 _ (by omega)).trans hb2_11;have hb3_12:=(hk12 _ (by omega)).trans hb3_11;refine ua (u_nil (wr (um (ua (u_nil (WP.ret ?_))))));refine ret_ok rfl ?_ (by omega) (fun t ht=>(hk12 t (by omega)).trans ((hk11 t (by omega)).trans ((hk3 t (by omega)).trans ((hk2 t (by omega))))));clear hK4;refine congrArg D.bool ?_;simp only [atPathV,List.length_map] at *
   grind
  ·
   refine wr ?_;refine uf th30 th3 hb3 ?_;refine ul th3 hb3 ?_;refine ub ?_;refine ua ?_;refine u_nil ?_;refine wc (fun hc15=>?_) (fun hc15=>?_) <;> try simp only [Q0,Q1,Q2,Q3,Q4,Q5,Q6,Q7,Q8,ge_iff_le,gt_iff_lt] at hc15
   ·
    refine wr (uf th30 th28 hb3 ?_);refine ul th28 hb3 ?_;refine uf th24 th22 hb2_3 ?_;refine ul th22 hb2_3 ?_;refine u_step (o_pcall (s74 e.deltas f.path) rfl ?_);refine ua (u_nil (WP.ret ?_));refine ret_ok rfl ?_ (by omega) (fun t ht=>(hk3 t (by omega)).trans ((hk2 t (by omega))));clear hK4;refine congrArg D.bool ?_;simp only [atPathV,List.length_map] at *
    grind
   ·
    refine WP.skip (hK4 _ (wr (ua (u_nil (WP.ret ?_)))));refine ret_ok rfl ?_ (by omega) (fun t ht=>(hk3 t (by omega)).trans ((hk2 t (by omega))));clear hK4;refine congrArg D.bool ?_;simp only [atPathV,List.length_map] at *
    grind
theorem fn17:FnOk Tryz.prog 17 36 [4] (bodyOf Tryz.f17):=⟨Tryz.f17,Tryz.func17,by kernel_rfl,by decide,by kernel_rfl,by kernel_rfl⟩
theorem s17 (f:Flt) (e:Etr) (okf:OkF f) (ok:OkE e):PSpec Tryz.prog 17 [.d (encF f),.d (encE e)] (.d (.bool (matchV f e))):=by
 refine PSpec.of fn17 (by simp) fun o nk=>?_;refine wr ?_;refine u_step (g_box rfl fun o2 hb2 hk2=>?_);refine u_step (g_box rfl fun o3 hb3 hk3=>?_);have hb2_3:=(hk3 _ (by omega)).trans hb2;refine ua (u_nil (WP.seq fun K4 hK4=>?_));refine wd ?_;refine dg th24 hb2_3 ?_;refine dg th30 hb3 ?_;refine d_step (o_pcall (s59 f e okf ok) rfl ⟨rfl,rfl,rfl⟩) ?_;refine dN ?_;refine dm ?_;apply d_guard
 ·exact GC.f _
 ·intro hg;exact pf th30 th3 hb3
 apply d_guard
 ·exact GC.f _
 ·intro hg;try simp only [hg,ct,Bt]
  exact pl th3 hb3
 apply d_guard
 ·exact GC.f _
 ·intro hg;try simp only [hg,ct,Bt]
  exact pb
 refine dO ?_;refine dm ?_;apply d_guard
 ·exact GC.f _
 ·intro hg;exact pf th24 th3 hb2_3
 apply d_guard
 ·exact GC.f _
 ·intro hg;try simp only [hg,ct,Bt]
  exact pl th3 hb2_3
 apply d_guard
 ·exact GC.f _
 ·intro hg;try simp only [hg,ct,Bt]
  exact pb
 apply d_guard
 ·exact GC.f _
 ·intro hg;try simp only [hg,ct,Bt]
  exact pm
 apply d_guard
 ·exact GC.ct _ _
 ·intro hg;exact pf th24 th3 hb2_3
 apply d_guard
 ·exact GC.ct _ _
 ·intro hg;try simp only [hg,ct,Bt]
  exact pl th3 hb2_3
 apply d_guard
 ·exact GC.ct _ _
 ·intro hg;exact pf th30 th3 hb3
 apply d_guard
 ·exact GC.ct _ _
 ·intro hg;try simp only [hg,ct,Bt]
  exact pl th3 hb3
 apply d_guard
 ·exact GC.ct _ _
 ·intro hg;try simp only [hg,ct,Bt]
  have hg2:=hg;try simp only [Q0,Q1,Q2,Q3,Q4,Q5,Q6,Q9,Qa,Qb,Qc,Qd] at hg2
  refine o_bin_sh rfl rfl (shl1 (by have hke:=hg2;(have hme:mayE e=true:=by simp_all);have:=mayE_kind hme;omega) (by have hke:=hg2;(have hme:mayE e=true:=by simp_all);have:=mayE_kind hme;omega)) ⟨rfl,rfl,rfl⟩
 apply d_guard
 ·exact GC.ct _ _
 ·intro hg;try simp only [hg,ct,Bt]
  exact pb
 apply d_guard
 ·exact GC.ct _ _
 ·intro hg;try simp only [hg,ct,Bt]
  exact pb
 apply d_guard
 ·exact GC.f _
 ·intro hg;try simp only [hg,ct,Bt]
  exact pA
 refine dO ?_;refine d_nil ?_;refine wc (fun hc6=>?_) (fun hc6=>?_) <;> try simp only [Q0,Q1,Q2,Q3,Q4,Q5,Q6,Q7,Q8,ge_iff_le,gt_iff_lt] at hc6
 ·
  refine wr (ua (u_nil (WP.ret ?_)));refine ret_ok rfl ?_ (by omega) (fun t ht=>(hk3 t (by omega)).trans ((hk2 t (by omega))));clear hK4;refine congrArg D.bool ?_;have ha:mayF f=true→mayE e=true→(bitsOf .and .i64 f.kinds ((2 ^ e.kind.toNat:Nat):Int) == 0)=!kindIn f.kinds e.kind:=fun h1 h2=>by have q1:=mayF_kinds h1;have q2:=mayE_kind h2;exact and_kind q1.1 q1.2 (by omega) (by omega)
  simp only [matchV] at *
  grind
 ·
  refine WP.skip (hK4 _ (wr (ug th24 hb2_3 ?_)));refine ug th30 hb3 ?_;refine u_step (o_pcall (s60 f e) rfl ?_);refine um ?_;apply gT
  ·rfl
  ·intro hg;exact pg th24 hb2_3
  apply gT
  ·rfl
  ·intro hg;exact pg th30 hb3
  apply gT
  ·rfl
  ·intro hg;try simp only [hg,ct,Bt]
   refine o_pcall (s61 f e okf ok) rfl ⟨rfl,rfl,rfl⟩
  refine uA (ua (u_nil (WP.ret ?_)));refine ret_ok rfl ?_ (by omega) (fun t ht=>(hk3 t (by omega)).trans ((hk2 t (by omega))));clear hK4;refine congrArg D.bool ?_;have ha:mayF f=true→mayE e=true→(bitsOf .and .i64 f.kinds ((2 ^ e.kind.toNat:Nat):Int) == 0)=!kindIn f.kinds e.kind:=fun h1 h2=>by have q1:=mayF_kinds h1;have q2:=mayE_kind h2;exact and_kind q1.1 q1.2 (by omega) (by omega)
  simp only [matchV] at *
  grind
theorem fn19:FnOk Tryz.prog 19 32 [4] (bodyOf Tryz.f19):=⟨Tryz.f19,Tryz.func19,by kernel_rfl,by decide,by kernel_rfl,by kernel_rfl⟩
theorem s19 (f:Flt) (e:Etr) (okf:OkF f) (ok:OkE e):PSpec Tryz.prog 19 [.d (encF f),.d (encE e)] (.d (.bool (endsV f e))):=by
 refine PSpec.of fn19 (by simp) fun o nk=>?_;refine wr ?_;refine u_step (g_box rfl fun o2 hb2 hk2=>?_);refine u_step (g_box rfl fun o3 hb3 hk3=>?_);have hb2_3:=(hk3 _ (by omega)).trans hb2;refine ua (u_nil (wr (uf th30 th3 hb3 ?_)));refine ul th3 hb3 ?_;refine ub (um ?_);apply gF
 ·rfl
 ·intro hg;exact pf th30 th3 hb3
 apply gF
 ·rfl
 ·intro hg;try simp only [hg,ct,Bt]
  exact pl th3 hb3
 apply gF
 ·rfl
 ·intro hg;try simp only [hg,ct,Bt]
  exact pb
 refine uO (ua (u_nil (wr (ug th24 hb2_3 ?_))));refine ug th30 hb3 ?_;refine u_step (o_pcall (s59 f e okf ok) rfl ?_);refine um ?_;apply gT
 ·rfl
 ·intro hg;exact pf th24 th9 hb2_3
 apply gT
 ·rfl
 ·intro hg;try simp only [hg,ct,Bt]
  exact pl th9 hb2_3
 apply gT
 ·rfl
 ·intro hg;try simp only [hg,ct,Bt]
  refine o_bin_str rfl (show _=SV.d (.str []) from rfl) rfl ⟨rfl,rfl,rfl⟩
 refine uA (um ?_);apply gT
 ·rfl
 ·intro hg;exact pm
 refine uA (um ?_);apply gT
 ·rfl
 ·intro hg;exact pf th30 th9 hb3
 apply gT
 ·rfl
 ·intro hg;try simp only [hg,ct,Bt]
  exact pl th9 hb3
 apply gT
 ·rfl
 ·intro hg;exact pf th24 th9 hb2_3
 apply gT
 ·rfl
 ·intro hg;try simp only [hg,ct,Bt]
  exact pl th9 hb2_3
 apply gT
 ·rfl
 ·intro hg;try simp only [hg,ct,Bt]
  exact ps
 refine uA (ua (u_nil (WP.ret ?_)));refine ret_ok rfl ?_ (by omega) (fun t ht=>(hk3 t (by omega)).trans ((hk2 t (by omega))))
 skip
 refine congrArg D.bool ?_;simp only [endsV] at *
 grind
theorem fn20:FnOk Tryz.prog 20 33 [4] (bodyOf Tryz.f20):=⟨Tryz.f20,Tryz.func20,by kernel_rfl,by decide,by kernel_rfl,by kernel_rfl⟩
theorem s20 (f:Flt) (e:Etr) (ok:OkE e):PSpec Tryz.prog 20 [.d (encF f),.d (encE e)] (.d (.bool (endsV f e))):=by
 refine PSpec.of fn20 (by simp) fun o nk=>?_;refine wr ?_;refine u_step (g_box rfl fun o2 hb2 hk2=>?_);refine u_step (g_box rfl fun o3 hb3 hk3=>?_);have hb2_3:=(hk3 _ (by omega)).trans hb2;refine ua (u_nil (wr (ug th24 hb2_3 ?_)));refine u_step (o_pcall (s16 f) rfl ?_);refine um ?_;apply gT
 ·rfl
 ·intro hg;exact pg th30 hb3
 apply gT
 ·rfl
 ·intro hg;try simp only [hg,ct,Bt]
  refine o_pcall (s24 e ok) rfl ⟨rfl,rfl,rfl⟩
 refine uA (um ?_);apply gT
 ·rfl
 ·intro hg;exact pf th24 th9 hb2_3
 apply gT
 ·rfl
 ·intro hg;try simp only [hg,ct,Bt]
  exact pl th9 hb2_3
 apply gT
 ·rfl
 ·intro hg;try simp only [hg,ct,Bt]
  refine o_bin_str rfl (show _=SV.d (.str []) from rfl) rfl ⟨rfl,rfl,rfl⟩
 refine uA (um ?_);apply gT
 ·rfl
 ·intro hg;exact pf th24 th9 hb2_3
 apply gT
 ·rfl
 ·intro hg;try simp only [hg,ct,Bt]
  exact pl th9 hb2_3
 apply gT
 ·rfl
 ·intro hg;exact pf th30 th9 hb3
 apply gT
 ·rfl
 ·intro hg;try simp only [hg,ct,Bt]
  exact pl th9 hb3
 apply gT
 ·rfl
 ·intro hg;try simp only [hg,ct,Bt]
  exact ps
 refine uA (um ?_);apply gT
 ·rfl
 ·intro hg;exact pf th30 th3 hb3
 apply gT
 ·rfl
 ·intro hg;try simp only [hg,ct,Bt]
  exact pl th3 hb3
 apply gT
 ·rfl
 ·intro hg;try simp only [hg,ct,Bt]
  exact pb
 apply gT
 ·rfl
 ·intro hg;try simp only [hg,ct,Bt]
  exact pm
 apply u_guard
 ·exact GC.cf _ _
 ·intro hg;exact pf th30 th3 hb3
 apply u_guard
 ·exact GC.cf _ _
 ·intro hg;try simp only [hg,ct,Bt]
  exact pl th3 hb3
 apply u_guard
 ·exact GC.cf _ _
 ·intro hg;try simp only [hg,ct,Bt]
  exact pb
 apply gT
 ·rfl
 ·intro hg;try simp only [hg,ct,Bt]
  exact pO
 refine uA (ua (u_nil (WP.ret ?_)));refine ret_ok rfl ?_ (by omega) (fun t ht=>(hk3 t (by omega)).trans ((hk2 t (by omega))))
 skip
 refine congrArg D.bool ?_;have hc:decide (f.coll=e.coll)=decide (e.coll=f.coll):=by rw [Bool.eq_iff_iff];simp only [decide_eq_true_eq];exact eq_comm
 simp only [endsV] at *
 grind
theorem fn18:FnOk Tryz.prog 18 103 [4] (bodyOf Tryz.f18):=⟨Tryz.f18,Tryz.func18,by kernel_rfl,by decide,by kernel_rfl,by kernel_rfl⟩
theorem s18 (f:Flt) (e:Etr) (ok:OkE e):PSpec Tryz.prog 18 [.d (encF f),.d (encE e)] (.d (.bool (matchV f e))):=by
 refine PSpec.bd fun hbd=>?_;have hx:e.deltas.length≤9223372036854775807:=ent_bd hbd.2.1;refine PSpec.of fn18 (by simp) fun o nk=>?_;refine wr ?_;refine u_step (g_box rfl fun o2 hb2 hk2=>?_);refine u_step (g_box rfl fun o3 hb3 hk3=>?_);have hb2_3:=(hk3 _ (by omega)).trans hb2;refine ua (u_nil (WP.seq fun K4 hK4=>?_));refine wr (ug th24 hb2_3 ?_);refine u_step (o_pcall (s16 f) rfl ?_);refine uN (um ?_);apply gF
 ·rfl
 ·intro hg;exact pg th30 hb3
 apply gF
 ·rfl
 ·intro hg;try simp only [hg,ct,Bt]
  refine o_pcall (s24 e ok) rfl ⟨rfl,rfl,rfl⟩
 apply gF
 ·rfl
 ·intro hg;try simp only [hg,ct,Bt]
  exact pN
 refine uO (um ?_);apply gF
 ·rfl
 ·intro hg;exact pf th30 th3 hb3
 apply gF
 ·rfl
 ·intro hg;try simp only [hg,ct,Bt]
  exact pl th3 hb3
 apply gF
 ·rfl
 ·intro hg;try simp only [hg,ct,Bt]
  exact pb
 refine uO ?_;refine u_nil ?_;refine wc (fun hc6=>?_) (fun hc6=>?_) <;> try simp only [Q0,Q1,Q2,Q3,Q4,Q5,Q6,Q7,Q8,ge_iff_le,gt_iff_lt] at hc6
 ·
  refine wr (ua (u_nil (WP.ret ?_)));refine ret_ok rfl ?_ (by omega) (fun t ht=>(hk3 t (by omega)).trans ((hk2 t (by omega))));clear hK4;refine congrArg D.bool ?_;have hl:=hc6;simp only [matchV]
  grind
 ·
  have hq3:mayF f=true∧mayE e=true∧¬ e.kind=1:=by simpa [and_assoc] using hc6
  obtain ⟨hmf,hme,hk1⟩:=hq3;have hke:=mayE_kind hme;have hks:=mayF_kinds hmf;refine WP.skip (hK4 _ (WP.seq fun K8 hK8=>?_));refine wd ?_;refine df th24 th3 hb2_3 ?_;refine dl th3 hb2_3 ?_;refine db ?_;refine dm ?_;apply d_guard
  ·exact GC.t _
  ·intro hg;exact pf th24 th3 hb2_3
  apply d_guard
  ·exact GC.t _
  ·intro hg;try simp only [hg,ct,Bt]
   exact pl th3 hb2_3
  apply d_guard
  ·exact GC.t _
  ·intro hg;exact pf th30 th3 hb3
  apply d_guard
  ·exact GC.t _
  ·intro hg;try simp only [hg,ct,Bt]
   exact pl th3 hb3
  apply d_guard
  ·exact GC.t _
  ·intro hg;try simp only [hg,ct,Bt]
   have hg2:=hg;try simp only [Q0,Q1,Q2,Q3,Q4,Q5,Q6,Q9,Qa,Qb,Qc,Qd] at hg2
   refine o_bin_sh rfl rfl (shl1 (by omega) (by omega)) ⟨rfl,rfl,rfl⟩
  apply d_guard
  ·exact GC.t _
  ·intro hg;try simp only [hg,ct,Bt]
   have hg2:=hg;try simp only [Q0,Q1,Q2,Q3,Q4,Q5,Q6,Q9,Qa,Qb,Qc,Qd] at hg2
   refine o_bin_int rfl rfl (by decide) (by show (if _ then _ else _)=_;rw [if_neg (by have:=Nat.two_pow_pos e.kind.toNat;omega)]) ⟨rfl,rfl,rfl⟩
  apply d_guard
  ·exact GC.t _
  ·intro hg;try simp only [hg,ct,Bt]
   exact pb
  apply d_guard
  ·exact GC.t _
  ·intro hg;try simp only [hg,ct,Bt]
   exact pb
  refine dA ?_;refine d_nil ?_;refine wc (fun hc10=>?_) (fun hc10=>?_) <;> try simp only [Q0,Q1,Q2,Q3,Q4,Q5,Q6,Q7,Q8,ge_iff_le,gt_iff_lt] at hc10
  ·
   refine wr (ua (u_nil (WP.ret ?_)));refine ret_ok rfl ?_ (by omega) (fun t ht=>(hk3 t (by omega)).trans ((hk2 t (by omega))));clear hK4 hK8;refine congrArg D.bool ?_;have hl:=hc10;rw [quo_kind hks.1 hks.2] at hl;simp only [matchV,kindIn]
   grind
  ·
   have hkn:(decide (f.kinds=0) || kindIn f.kinds e.kind)=true:=by
    have hl:=hc10;rw [quo_kind hks.1 hks.2] at hl;simp only [kindIn]
    grind
   refine WP.skip (hK8 _ (WP.seq fun K12 hK12=>?_));refine wr (uf th24 th9 hb2_3 ?_);refine ul th9 hb2_3 ?_;refine u_step (o_bin_str rfl (show _=SV.d (.str []) from rfl) rfl ?_);refine um ?_;apply gT
   ·rfl
   ·intro hg;exact pf th30 th9 hb3
   apply gT
   ·rfl
   ·intro hg;try simp only [hg,ct,Bt]
    exact pl th9 hb3
   apply gT
   ·rfl
   ·intro hg;exact pf th24 th9 hb2_3
   apply gT
   ·rfl
   ·intro hg;try simp only [hg,ct,Bt]
    exact pl th9 hb2_3
   apply gT
   ·rfl
   ·intro hg;try simp only [hg,ct,Bt]
    exact ps
   refine uA (um ?_);apply gT
   ·rfl
   ·intro hg;exact pf th30 th3 hb3
   apply gT
   ·rfl
   ·intro hg;try simp only [hg,ct,Bt]
    exact pl th3 hb3
   apply gT
   ·rfl
   ·intro hg;try simp only [hg,ct,Bt]
    exact pb
   apply gT
   ·rfl
   ·intro hg;try simp only [hg,ct,Bt]
    exact pm
   apply u_guard
   ·exact GC.ct _ _
   ·intro hg;exact pf th30 th9 hb3
   apply u_guard
   ·exact GC.ct _ _
   ·intro hg;try simp only [hg,ct,Bt]
    exact pl th9 hb3
   apply u_guard
   ·exact GC.ct _ _
   ·intro hg;exact pf th24 th9 hb2_3
   apply u_guard
   ·exact GC.ct _ _
   ·intro hg;try simp only [hg,ct,Bt]
    exact pl th9 hb2_3
   apply u_guard
   ·exact GC.ct _ _
   ·intro hg;try simp only [hg,ct,Bt]
    exact ps
   apply gT
   ·rfl
   ·intro hg;try simp only [hg,ct,Bt]
    exact pA
   apply gT
   ·rfl
   ·intro hg;try simp only [hg,ct,Bt]
    exact pN
   refine uA ?_;refine u_nil ?_;refine wc (fun hc14=>?_) (fun hc14=>?_) <;> try simp only [Q0,Q1,Q2,Q3,Q4,Q5,Q6,Q7,Q8,ge_iff_le,gt_iff_lt] at hc14
   ·
    refine wr (ua (u_nil (WP.ret ?_)));refine ret_ok rfl ?_ (by omega) (fun t ht=>(hk3 t (by omega)).trans ((hk2 t (by omega))));clear hK4 hK8 hK12;refine congrArg D.bool ?_;have hl:=hc14;simp only [matchV,ofCollV]
    grind
   ·
    have hco:ofCollV f e=true:=by
     have hl:=hc14;simp only [ofCollV]
     grind
    have hma:=match_at hmf hme hk1 hkn hco;refine WP.skip ?_;refine hK12 _ ?_;refine WP.seq fun K16 hK16=>?_;refine wr ?_;refine uf th24 th22 hb2_3 ?_;refine ul th22 hb2_3 ?_;refine un th22 ?_;refine ub ?_;refine u_nil ?_;refine wc (fun hc18=>?_) (fun hc18=>?_) <;> try simp only [Q0,Q1,Q2,Q3,Q4,Q5,Q6,Q7,Q8,ge_iff_le,gt_iff_lt] at hc18
    ·
     refine wr (ua (u_nil (WP.ret ?_)));refine ret_ok rfl ?_ (by omega) (fun t ht=>(hk3 t (by omega)).trans ((hk2 t (by omega))));clear hK4 hK8 hK12 hK16;refine congrArg D.bool ?_;rw [hma];have hl:=hc18;simp only [atPathV,List.length_map] at *
     grind
    ·
     have hp0:¬ f.path.length=0:=by simpa using hc18
     refine WP.skip ?_;refine hK16 _ ?_;refine WP.seq fun K20 hK20=>?_;refine wr ?_;refine uf th30 th3 hb3 ?_;refine ul th3 hb3 ?_;refine u_nil ?_;refine WP.block ?_;refine wr ?_;refine ub ?_;refine ua ?_;refine u_nil ?_;refine wc (fun hc23=>?_) (fun hc23=>?_) <;> try simp only [Q0,Q1,Q2,Q3,Q4,Q5,Q6,Q7,Q8,ge_iff_le,gt_iff_lt] at hc23
     ·
      have hkA:e.kind=2:=by simpa using hc23
      refine wr (uf th30 th27 hb3 ?_);refine ug th27 hb3 ?_;refine uf th24 th22 hb2_3 ?_;refine ul th22 hb2_3 ?_;refine u_step (o_pcall (pv2 (v:=e.doc) (s62 e.doc f.path (check_may (mayE_doc hme (by simpa using hc23)).2))) rfl ?_);refine u_step (o_moveV (v:=.tup _) rfl ?_);refine ue (ue ?_);refine u_step (g_alloc th27 rfl fun o25 hb25 hk25=>?_);have hb2_25:=(hk25 _ (by omega)).trans hb2_3;have hb3_25:=(hk25 _ (by omega)).trans hb3;refine u_step0 (g_sta rfl (congrArg SV.d (encV_eq _)) th27 rfl hb25 (by simp [valCells]) fun o26 hb26 hk26=>?_);have hb2_26:=(hk26 _ (by omega)).trans hb2_25;have hb3_26:=(hk26 _ (by omega)).trans hb3_25;refine ua (u_nil (wr (um (ua (u_nil (WP.ret ?_))))));refine ret_ok rfl ?_ (by omega) (fun t ht=>(hk26 t (by omega)).trans ((hk25 t (by omega)).trans ((hk3 t (by omega)).trans ((hk2 t (by omega))))));clear hK4 hK8 hK12 hK16 hK20;refine congrArg D.bool ?_;rw [hma];simp only [atPathV];rw [if_neg hp0,if_pos hkA,getP_doc hmf hme hkA hp0]
     ·
      have hkC:¬ e.kind=2:=by simpa using hc23
      refine wr ?_;refine ub ?_;refine ua ?_;refine u_nil ?_;refine wc (fun hc29=>?_) (fun hc29=>?_) <;> try simp only [Q0,Q1,Q2,Q3,Q4,Q5,Q6,Q7,Q8,ge_iff_le,gt_iff_lt] at hc29
      ·
       have hkB:e.kind=3:=by simpa using hc29
       refine WP.seq fun K30 hK30=>?_;refine wr (ua (u_nil (WP.block ?_)));refine WP.loopL (ι:=Nat) (fun i=>⟨al [(2,.loc nk 0),(3,.loc (nk+1) 0),(7,.d (.int .i64 i))],o3,((nk+1)+1)⟩) (fun i=>i≤e.deltas.length∧∀ (j:Nat) (hj:j < e.deltas.length),j < i→meetV (e.deltas[j]'hj).path f.path=false) (fun i=>e.deltas.length - i) (fun i hA=>?_) 0 ?_ ?_
       ·
        obtain ⟨hle_i,hin_i⟩:=hA;refine WP.seq fun K32 hK32=>?_;refine wr ?_;refine um ?_;refine uf th30 th28 hb3 ?_;refine ul th28 hb3 ?_;refine un th28 ?_;refine ub ?_;refine u_nil ?_;refine wc (fun hc34=>?_) (fun hc34=>?_) <;> try simp only [Q0,Q1,Q2,Q3,Q4,Q5,Q6,Q7,Q8,ge_iff_le,gt_iff_lt] at hc34
        ·
         refine WP.skip (hK32 _ (WP.seq fun K35 hK35=>?_));refine WP.block (wd ?_);refine df th30 th28 hb3 ?_;refine dl th28 hb3 ?_;refine dm ?_;refine d_step (o_ia_G (xs:=e.deltas) default rfl rfl th28 rfl th83 rfl (by simpa using hc34) ⟨rfl,rfl,rfl⟩) ?_;refine dF th83 th22 ?_;refine dL th22 ?_;refine df th24 th22 hb2_3 ?_;refine dl th22 hb2_3 ?_;refine d_step (o_pcall (s63 (e.deltas.getD i default).path f.path) rfl ⟨rfl,rfl,rfl⟩) ?_;refine dm ?_;apply d_guard
         ·exact GC.f _
         ·intro hg;exact pf th24 th22 hb2_3
         apply d_guard
         ·exact GC.f _
         ·intro hg;try simp only [hg,ct,Bt]
          exact pl th22 hb2_3
         apply d_guard
         ·exact GC.f _
         ·intro hg;exact pf th30 th28 hb3
         apply d_guard
         ·exact GC.f _
         ·intro hg;try simp only [hg,ct,Bt]
          exact pl th28 hb3
         apply d_guard
         ·exact GC.f _
         ·intro hg;exact pm
         apply d_guard
         ·exact GC.f _
         ·intro hg;try simp only [hg,ct,Bt]
          refine o_ia_G (xs:=e.deltas) default rfl rfl th28 rfl th83 rfl (by simpa using hc34) ⟨rfl,rfl,rfl⟩
         apply d_guard
         ·exact GC.f _
         ·intro hg;try simp only [hg,ct,Bt]
          exact pF th83 th22
         apply d_guard
         ·exact GC.f _
         ·intro hg;try simp only [hg,ct,Bt]
          exact pL th22
         apply d_guard
         ·exact GC.f _
         ·intro hg;try simp only [hg,ct,Bt]
          refine o_pcall (s63 f.path (e.deltas.getD i default).path) rfl ⟨rfl,rfl,rfl⟩
         refine dO ?_;refine d_nil ?_;refine wc (fun hc37=>?_) (fun hc37=>?_) <;> try simp only [Q0,Q1,Q2,Q3,Q4,Q5,Q6,Q7,Q8,ge_iff_le,gt_iff_lt] at hc37
         ·
          refine wr (ua (u_nil (WP.ret ?_)));refine ret_ok rfl ?_ (by omega) (fun t ht=>(hk3 t (by omega)).trans ((hk2 t (by omega))));clear hK4 hK8 hK12 hK16 hK20 hK30 hK32 hK35;refine congrArg D.bool ?_;rw [hma];simp only [atPathV];rw [if_neg hp0,if_neg (by omega),if_pos hkB];have hl:=hc37;refine (List.any_eq_true.2 ⟨e.deltas[i],List.getElem_mem _,?_⟩).symm;have hli:i < e.deltas.length:=by omega
          simpa [meetV,hli] using hl
         ·
          refine WP.skip (hK35 _ (WP.reg tabOk rfl ?_));refine um (ub (ua (u_nil ?_)));refine ⟨i+1,⟨by omega,?_⟩,by omega,?_⟩
          ·intro j hj h1;by_cases h2:j=i
           ·subst h2;have hl:=hc37;simpa [meetV,hj] using hl
           ·exact hin_i j hj (by omega)
          ·refine Le.al ?_;simp only [List.forall_mem_cons];exact ⟨rfl,rfl,cnt (by omega),by simp⟩
        ·
         refine WP.exit ?_;refine hK30 _ (wr (ua (u_nil (WP.ret ?_))));refine ret_ok rfl ?_ (by omega) (fun t ht=>(hk3 t (by omega)).trans ((hk2 t (by omega))));clear hK4 hK8 hK12 hK16 hK20 hK30 hK32;refine congrArg D.bool ?_;rw [hma];simp only [atPathV];rw [if_neg hp0,if_neg (by omega),if_pos hkB];refine (List.any_eq_false.2 fun x hx=>?_).symm;obtain ⟨j,hj,rfl⟩:=List.mem_iff_getElem.1 hx;rw [hin_i j hj (by omega)];simp
       ·
        simp
       ·
        refine Le.al ?_;simp only [List.forall_mem_cons];exact ⟨rfl,rfl,rfl,by simp⟩
      ·
       refine WP.skip (hK20 _ (wr (ua (u_nil (WP.ret ?_)))));refine ret_ok rfl ?_ (by omega) (fun t ht=>(hk3 t (by omega)).trans ((hk2 t (by omega))));clear hK4 hK8 hK12 hK16 hK20;refine congrArg D.bool ?_;rw [hma];simp only [atPathV];have h3:¬ e.kind=3:=by simpa using hc29
       have h2:¬ e.kind=2:=hkC;rw [if_neg hp0,if_neg h2,if_neg h3]
mutual
def nodesN:Val→Nat→Nat
 | .mk _ _ _ xs ns,d=>if 40 < d then 1048576 else nodesL xs d (1+ns.length)
def nodesL:List Val→Nat→Nat→Nat
 | [],_,n=>n
 | x :: xs,d,n=>if n < 65536 then nodesL xs d (n+nodesN x (d+1)) else n
end
mutual
theorem nodesN_le:∀ (v:Val) (d:Nat),nodesN v d≤1048576 * szV v
 | .mk k i t xs ns,d=>by
  have h1:=nodesL_le xs d (1+ns.length);have h2:=szN_len ns;simp only [nodesN,szV];split <;> omega
theorem nodesL_le:∀ (xs:List Val) (d n:Nat),nodesL xs d n≤n+1048576 * szVs xs
 | [],_,n=>by simp [nodesL,szVs]
 | x :: xs,d,n=>by
  have h1:=nodesN_le x (d+1);have h2:=nodesL_le xs d (n+nodesN x (d+1));simp only [nodesL,szVs];split <;> omega
end
theorem nodesL_at {xs:List Val} {i d n:Nat} (h:i < xs.length) (hn:n < 65536):nodesL (xs.drop i) d n=nodesL (xs.drop (i+1)) d (n+nodesN (xs[i]'h) (d+1)):=by
 rw [List.drop_eq_getElem_cons h,nodesL,if_pos hn]
theorem nodesL_full {xs:List Val} {i d n:Nat} (hi:i≤xs.length) (h:¬ (i < xs.length∧n < 65536)):nodesL (xs.drop i) d n=n:=by
 by_cases hx:i < xs.length
 ·rw [List.drop_eq_getElem_cons hx,nodesL,if_neg (by omega)]
 ·have e:xs.drop i=[]:=List.drop_eq_nil_of_le (by omega);rw [e,nodesL]
theorem wr_arg {P:Program} {f:FuncId} {x:SV} {m:Int} {c:Nat} {r:SV} (h:PSpec P f [x,.d (.int .i64 (c:Int))] r) (e:m=(c:Int)):PSpec P f [x,.d (.int .i64 m)] r:=by rw [e];exact h
theorem ltN (k n:Nat):decide ((k:Int) < (n:Int))=decide (k < n):=by
 rw [Bool.eq_iff_iff];simp only [decide_eq_true_eq];omega
theorem lt50 (n:Nat):decide ((50:Int) < (n:Int))=decide (50 < n):=ltN 50 n
def largeV (v:Val):Bool:=decide (3000 < nodesN v 0)
def largeD (l:List Dlt):Bool:=(l.take 70).any (fun d=>largeV d.value || decide (50 < d.path.length)) || decide (100 < l.length)
def largeE (e:Etr):Bool:=largeV e.id || largeV e.doc || largeD e.deltas
def largeF (f:Flt) (e:Etr):Bool:=decide (50 < f.path.length) || largeE e
theorem szVs_take:∀ (xs:List Val) (i:Nat),szVs (xs.take i)≤szVs xs
 | [],i=>by simp [szVs]
 | x :: xs,0=>by simp [szVs]
 | x :: xs,i+1=>by
  have:=szVs_take xs i;simp only [List.take_succ_cons,szVs];omega
theorem szVs_snoc:∀ {xs:List Val} {i:Nat} (h:i < xs.length),szVs (xs.take (i+1))=szVs (xs.take i)+szV (xs[i]'h)
 | x :: xs,0,_=>by simp [szVs]
 | x :: xs,i+1,h=>by
  have:=szVs_snoc (xs:=xs) (i:=i) (by simpa using h);simp only [List.take_succ_cons,szVs,this,List.getElem_cons_succ];omega
theorem take70 {l:List Dlt} {p:Dlt→Bool} {i:Nat} (hi:i≤l.length) (h:∀ (j:Nat) (hj:j < l.length),j < i→p l[j]=false) (he:¬ (i < l.length∧i < 70)):(l.take 70).any p=false:=by
 rw [List.any_eq_false];intro x hx;obtain ⟨j,hj,rfl⟩:=List.mem_iff_getElem.1 hx;rw [List.getElem_take];simp at hj;rw [h j (by omega) (by omega)];simp
theorem take70t {l:List Dlt} {p:Dlt→Bool} {i:Nat} (hi:i < l.length) (h7:i < 70) (hp:p (l[i]'hi)=true):(l.take 70).any p=true:=
 List.any_eq_true.2 ⟨l[i],List.mem_iff_getElem.2 ⟨i,by simp;omega,by rw [List.getElem_take]⟩,hp⟩
theorem fn69:FnOk Tryz.prog 69 35 [4] (bodyOf Tryz.f69):=⟨Tryz.f69,Tryz.func69,by kernel_rfl,by decide,by kernel_rfl,by kernel_rfl⟩
theorem s69A (m:Nat):∀ (v:Val) (d:Nat),SizeOf.sizeOf v < m→szV v≤1099511627776→d≤41→PSpec Tryz.prog 69 [.d (encV v),.d (.int .i64 (d:Int))] (.d (.int .i64 (nodesN v d:Nat))):=by
 induction m with
 | zero=>intros;omega
 | succ m ih=>
  rintro ⟨kd,it,tx,xs,ns⟩ d hv hsz hd;have hsz2:1+tx.length+szVs xs+szN ns≤1099511627776:=hsz;have hxl:=szVs_len xs;have hnl:=szN_len ns;have hln:=encVs_length xs;refine PSpec.of fn69 (by simp) fun o nk=>?_;refine wr ?_;refine u_step (g_box rfl fun o2 hb2 hk2=>?_);refine ua ?_;refine u_nil ?_;refine WP.seq fun K3 hK3=>?_;refine wr ?_;refine um ?_;refine ub ?_;refine u_nil ?_;refine wc (fun hc5=>?_) (fun hc5=>?_) <;> try simp only [Q0,Q1,Q2,Q3,Q4,Q5,Q6,Q7,Q8,ge_iff_le,gt_iff_lt] at hc5
  ·
   refine wr (ua (u_nil (WP.ret ?_)));refine ret_ok rfl ?_ (by omega) (fun t ht=>(hk2 t (by omega)));clear hK3;refine congrArg (D.int .i64) ?_;have hq:40 < d:=by have:=hc5;(try simp at this);omega
   rw [nodesN,if_pos hq];rfl
  ·
   have hd40:¬ 40 < d:=by have:=hc5;(try simp at this);omega
   refine WP.skip (hK3 _ (wr (uf th27 th22 hb2 ?_)));refine ul th22 hb2 ?_;refine un th22 ?_;refine ub (ua (u_nil (WP.seq fun K8 hK8=>?_)));refine wr (ua (u_nil (WP.block ?_)));refine WP.loopL (ι:=Nat×Nat) (fun ⟨i,n⟩=>⟨al [(1,.d (.int .i64 (d:Int))),(2,.loc nk 0),(5,.d (.int .i64 (n:Nat))),(6,.d (.int .i64 i))],o2,(nk+1)⟩) (fun ⟨i,n⟩=>i≤xs.length∧n≤1+ns.length+1048576 * szVs (xs.take i)∧nodesL (xs.drop i) d n=nodesL xs d (1+ns.length)) (fun ⟨i,n⟩=>xs.length - i) (fun ⟨i,n⟩ hA=>?_) ⟨0,1+ns.length⟩ ?_ ?_
   ·
    obtain ⟨hle,hnb,hnn⟩:=hA;refine WP.seq fun K10 hK10=>?_;refine wr (um (uf th27 th25 hb2 ?_));refine ul th25 hb2 ?_;refine un th25 ?_;refine ub (um ?_);apply gT
    ·rfl
    ·intro hg;exact pm
    apply gT
    ·rfl
    ·intro hg;try simp only [hg,ct,Bt]
     exact pb
    refine uA ?_;refine u_nil ?_;refine wc (fun hc12=>?_) (fun hc12=>?_) <;> try simp only [Q0,Q1,Q2,Q3,Q4,Q5,Q6,Q7,Q8,ge_iff_le,gt_iff_lt] at hc12
    ·
     have hin2:i < xs.length∧n < 65536:=by have:=hc12;(try simp [encVs_length] at this);omega
     refine WP.skip (hK10 _ (WP.seq fun K13 hK13=>?_));refine WP.block (WP.reg tabOk rfl ?_);refine um (uf th27 th25 hb2 ?_);refine ul th25 hb2 ?_;refine um ?_
     first | refine u_step (o_ia_map rfl rfl th25 rfl th27 rfl (by omega) ?_) | refine u_step (o_ia_vs rfl rfl th25 rfl th27 rfl (by omega) ?_)
     refine uL th27 ?_;refine um (ub ?_);refine u_step (o_pcall (wr_arg (c:=d+1) (ih xs[i] (d+1) (by exact items_lt' (by omega) hv) (by have:=szVs_get (xs:=xs) (j:=i) (by omega);omega) (by omega)) (by rw [wrap_i64 (by omega) (by omega)];omega)) rfl ?_);refine ub (ua (u_nil (hK13 _ (WP.reg tabOk rfl ?_))));refine um (ub (ua (u_nil ?_)));have hb1:=nodesN_le xs[i] (d+1);have hb2:=szVs_snoc (xs:=xs) (i:=i) (by omega);have hb3:=szVs_take xs (i+1);refine ⟨⟨i+1,n+nodesN xs[i] (d+1)⟩,⟨by omega,by omega,?_⟩,by simp only;omega,?_⟩
     ·rw [← hnn,nodesL_at hin2.1 hin2.2]
     ·refine Le.al ?_;simp only [List.forall_mem_cons];exact ⟨rfl,rfl,add_w rfl (by omega),cnt (by omega),by simp⟩
    ·
     have hin2:¬ (i < xs.length∧n < 65536):=by have:=hc12;(try simp [encVs_length] at this);omega
     refine WP.exit ?_;refine hK8 _ (wr (um (ua (u_nil (WP.ret ?_)))));refine ret_ok rfl ?_ (by omega) (fun t ht=>(hk2 t (by omega)));clear hK3 hK8 hK10;refine congrArg (D.int .i64) ?_;rw [nodesN,if_neg hd40,← hnn,nodesL_full hle hin2]
   ·
    exact ⟨by omega,by omega,rfl⟩
   ·
    refine Le.al ?_;simp only [List.forall_mem_cons];refine ⟨rfl,rfl,?_,rfl,by simp⟩;have hw:IntKind.i64.wrap (1+((ns.map D.str).length:Int))=((1+ns.length:Nat):Int):=by rw [List.length_map,wrap_i64 (by omega) (by omega)];omega
    rw [← hw];rfl
theorem s69 (v:Val) (d:Nat) (hsz:szV v≤1099511627776) (hd:d≤41):PSpec Tryz.prog 69 [.d (encV v),.d (.int .i64 (d:Int))] (.d (.int .i64 (nodesN v d:Nat))):=s69A _ v d (Nat.lt_succ_self _) hsz hd
theorem fn26:FnOk Tryz.prog 26 6 [2] (bodyOf Tryz.f26):=⟨Tryz.f26,Tryz.func26,by kernel_rfl,by decide,by kernel_rfl,by kernel_rfl⟩
theorem s26 (v:Val) (hsz:szV v≤1099511627776):PSpec Tryz.prog 26 [.d (encV v)] (.d (.bool (largeV v))):=by
 obtain ⟨kd,it,tx,xs,ns⟩:=v;refine PSpec.of fn26 (by simp) fun o nk=>?_;refine wr ?_;refine u_step (g_box rfl fun o2 hb2 hk2=>?_);refine ua (u_nil (wr (ug th27 hb2 ?_)));refine u_step (o_pcall (s69 (.mk kd it tx xs ns) 0 hsz (by omega)) rfl ?_);refine ub (ua (u_nil (WP.ret ?_)));refine ret_ok rfl ?_ (by omega) (fun t ht=>(hk2 t (by omega)));refine congrArg D.bool ?_;unfold largeV;rw [Bool.eq_iff_iff];simp only [decide_eq_true_eq];omega
theorem fn25:FnOk Tryz.prog 25 32 [2] (bodyOf Tryz.f25):=⟨Tryz.f25,Tryz.func25,by kernel_rfl,by decide,by kernel_rfl,by kernel_rfl⟩
theorem s25 (l:List Dlt) (hl:∀ d∈l,szV d.value≤1099511627776):PSpec Tryz.prog 25 [.d (.sl 8 (l.map encD))] (.d (.bool (largeD l))):=by
 refine PSpec.bd fun hbd=>?_;have hx:l.length≤9223372036854775807:=by simpa using hbd.1.1
 refine PSpec.of fn25 (by simp) fun o nk=>?_;refine wr (ua (u_nil (WP.seq fun K2 hK2=>?_)));refine wr (ua (u_nil (WP.block ?_)));refine WP.loopL (ι:=Nat) (fun i=>⟨al [(0,.d (.sl 8 (l.map encD))),(3,.d (.int .i64 i))],o,nk⟩) (fun i=>i≤l.length∧∀ (j:Nat) (hj:j < l.length),j < i→(largeV l[j].value || decide (50 < l[j].path.length))=false) (fun i=>l.length - i) (fun i hA=>?_) 0 ?_ ?_
 ·
  obtain ⟨hle_i,hin_i⟩:=hA;refine WP.seq fun K4 hK4=>?_;refine wr (um (um (un th28 ?_)));refine ub (um ?_);apply gT
  ·rfl
  ·intro hg;exact pm
  apply gT
  ·rfl
  ·intro hg;try simp only [hg,ct,Bt]
   exact pb
  refine uA ?_;refine u_nil ?_;refine wc (fun hc6=>?_) (fun hc6=>?_) <;> try simp only [Q0,Q1,Q2,Q3,Q4,Q5,Q6,Q7,Q8,ge_iff_le,gt_iff_lt] at hc6
  ·
   have hin2:i < l.length∧i < 70:=by have:=hc6;(try simp at this);omega
   have hil:=hin2.1;have hgd:l.getD i default=l[i]:=by simp [hil]
   refine WP.skip (hK4 _ (WP.seq fun K7 hK7=>?_));refine WP.block (wr (um (um ?_)));refine u_step (o_ia_G (xs:=l) default rfl rfl th28 rfl th83 rfl hin2.1 ?_);refine uF th83 th27 ?_;refine uL th27 ?_;refine u_step (o_pcall (pv (v:=(l.getD i default).value) (s26 _ (by rw [hgd];exact hl _ (List.getElem_mem _)))) rfl ?_);refine um ?_;apply gF
   ·rfl
   ·intro hg;exact pm
   apply gF
   ·rfl
   ·intro hg;exact pm
   apply gF
   ·rfl
   ·intro hg;try simp only [hg,ct,Bt]
    refine o_ia_G (xs:=l) default rfl rfl th28 rfl th83 rfl hin2.1 ⟨rfl,rfl,rfl⟩
   apply gF
   ·rfl
   ·intro hg;try simp only [hg,ct,Bt]
    exact pF th83 th22
   apply gF
   ·rfl
   ·intro hg;try simp only [hg,ct,Bt]
    exact pL th22
   apply gF
   ·rfl
   ·intro hg;try simp only [hg,ct,Bt]
    exact pn th22
   apply gF
   ·rfl
   ·intro hg;try simp only [hg,ct,Bt]
    exact pb
   refine uO ?_;refine u_nil ?_;refine wc (fun hc9=>?_) (fun hc9=>?_) <;> try simp only [Q0,Q1,Q2,Q3,Q4,Q5,Q6,Q7,Q8,ge_iff_le,gt_iff_lt] at hc9
   ·
    refine wr (ua (u_nil (WP.ret ?_)));refine ret_ok rfl ?_ (by omega) (fun _ _=>rfl);clear hK2 hK4 hK7;refine congrArg D.bool ?_;have hlq:=hc9;unfold largeD;rw [take70t (p:=fun d=>largeV d.value || decide (50 < d.path.length)) hin2.1 hin2.2 (by rw [hgd] at hlq;simpa only [List.length_map,lt50] using hlq)];rfl
   ·
    refine WP.skip (hK7 _ (WP.reg tabOk rfl ?_));refine um (ub (ua (u_nil ?_)));refine ⟨i+1,⟨by omega,?_⟩,by omega,?_⟩
    ·intro j hj h1;by_cases h2:j=i
     ·subst h2;have hlq:=hc9;rw [hgd] at hlq;simpa only [List.length_map,lt50] using hlq
     ·exact hin_i j hj (by omega)
    ·refine Le.al ?_;simp only [List.forall_mem_cons];exact ⟨rfl,cnt (by omega),by simp⟩
  ·
   have hin2:¬ (i < l.length∧i < 70):=by have:=hc6;(try simp at this);omega
   refine WP.exit ?_;refine hK2 _ (wr (um (un th28 ?_)));refine ub (ua (u_nil (WP.ret ?_)));refine ret_ok rfl ?_ (by omega) (fun _ _=>rfl);clear hK2 hK4;refine congrArg D.bool ?_;unfold largeD;rw [take70 (p:=fun d=>largeV d.value || decide (50 < d.path.length)) hle_i hin_i hin2,Bool.eq_iff_iff];simp;omega
 ·
  simp
 ·
  refine Le.al ?_;simp only [List.forall_mem_cons];exact ⟨rfl,rfl,by simp⟩
theorem fn22:FnOk Tryz.prog 22 16 [2] (bodyOf Tryz.f22):=⟨Tryz.f22,Tryz.func22,by kernel_rfl,by decide,by kernel_rfl,by kernel_rfl⟩
theorem s22 (e:Etr) (ok:OkE e) (okd:∀ d∈e.deltas,szV d.value≤1099511627776):PSpec Tryz.prog 22 [.d (encE e)] (.d (.bool (largeE e))):=by
 refine PSpec.of fn22 (by simp) fun o nk=>?_;refine wr ?_;refine u_step (g_box rfl fun o2 hb2 hk2=>?_);refine ua (u_nil (wr (uf th30 th27 hb2 ?_)));refine ug th27 hb2 ?_;refine u_step (o_pcall (pv (v:=e.id) (s26 e.id ok.si)) rfl ?_);refine um ?_;apply gF
 ·rfl
 ·intro hg;exact pf th30 th27 hb2
 apply gF
 ·rfl
 ·intro hg;try simp only [hg,ct,Bt]
  exact pg th27 hb2
 apply gF
 ·rfl
 ·intro hg;try simp only [hg,ct,Bt]
  refine o_pcall (pv (v:=e.doc) (s26 e.doc ok.sd)) rfl ⟨rfl,rfl,rfl⟩
 refine uO (um ?_);apply gF
 ·rfl
 ·intro hg;exact pf th30 th28 hb2
 apply gF
 ·rfl
 ·intro hg;try simp only [hg,ct,Bt]
  exact pl th28 hb2
 apply gF
 ·rfl
 ·intro hg;try simp only [hg,ct,Bt]
  refine o_pcall (s25 e.deltas okd) rfl ⟨rfl,rfl,rfl⟩
 refine uO (ua (u_nil (WP.ret ?_)));refine ret_ok rfl ?_ (by omega) (fun t ht=>(hk2 t (by omega)));rfl
theorem fn13:FnOk Tryz.prog 13 13 [4] (bodyOf Tryz.f13):=⟨Tryz.f13,Tryz.func13,by kernel_rfl,by decide,by kernel_rfl,by kernel_rfl⟩
theorem s13 (f:Flt) (e:Etr) (ok:OkE e) (okd:∀ d∈e.deltas,szV d.value≤1099511627776):PSpec Tryz.prog 13 [.d (encF f),.d (encE e)] (.d (.bool (largeF f e))):=by
 refine PSpec.of fn13 (by simp) fun o nk=>?_;refine wr ?_;refine u_step (g_box rfl fun o2 hb2 hk2=>?_);refine u_step (g_box rfl fun o3 hb3 hk3=>?_);have hb2_3:=(hk3 _ (by omega)).trans hb2;refine ua (u_nil (wr (uf th24 th22 hb2_3 ?_)));refine ul th22 hb2_3 ?_;refine un th22 ?_;refine ub (um ?_);apply gF
 ·rfl
 ·intro hg;exact pg th30 hb3
 apply gF
 ·rfl
 ·intro hg;try simp only [hg,ct,Bt]
  refine o_pcall (s22 e ok okd) rfl ⟨rfl,rfl,rfl⟩
 refine uO (ua (u_nil (WP.ret ?_)));refine ret_ok rfl ?_ (by omega) (fun t ht=>(hk3 t (by omega)).trans ((hk2 t (by omega))));refine congrArg D.bool ?_;simp only [largeF,List.length_map,lt50]
end Go.Proofs.YtpkcbdhjnnnkbaaGreat.Abs



namespace Go.Proofs.YtpkcbdhjnnnkbaaGreat.Abs
open Go
theorem o_cv_sr {P:Program} {Θ:Tab} {K:SV→(Nat→Option AO)→Nat→Prop} {sl:Nat→SV} {o:Nat→Option AO} {nk e q:Nat} {x:Operand} {i j je:TI} {src dst:Nat} {b:List UInt8} (hx:ev sl x=.row q) (ho:o q=some (.row e 1 (bytesD b))) (hi:Θ src=some i) (hik:i.k=.slice e) (he:Θ e=some je) (hek:je.k=.int .u8) (hj:Θ dst=some j) (hk:j.k=.str) (h:K (.d (.str b)) o nk):vOp P Θ (.convert src dst x) ⟨sl,o,nk⟩ K:=by
 refine Or.inl ?_;show coOp Θ o src dst (ev sl x) (fun v=>K v o nk);rw [hx];refine ⟨i,j,hi,hj,hk,⟨e,je,hik,he,hek⟩,bytesD b,b,by simp [srcOf,ho],?_,h⟩;exact byteL_bytesD b
theorem o_pick_T {P:Program} {Θ:Tab} {K:SV→(Nat→Option AO)→Nat→Prop} {sl:Nat→SV} {o:Nat→Option AO} {nk:Nat} {x y c:Operand} {p q:Bool} (hc:ev sl c=.d (.bool p)) (hp:p=true) (hx:ev sl x=.d (.bool q)) (hy:ev sl y=.d (.bool false)) (h:K (.d (.bool q)) o nk):vOp P Θ (.pick c x y) ⟨sl,o,nk⟩ K:=by
 subst hp;exact o_pick_and hc (hx.trans (cnd_T _).symm) hy (by rw [Bool.true_and];exact h)
end Go.Proofs.YtpkcbdhjnnnkbaaGreat.Abs
