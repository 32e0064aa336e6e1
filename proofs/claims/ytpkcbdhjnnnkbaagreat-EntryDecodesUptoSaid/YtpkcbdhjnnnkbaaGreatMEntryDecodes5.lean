/- Part 5 of the proof that EntryDecodes: called with any bytes that hold together at most 1048576 values and letters, the law answers true, and the bytes read afterwards as they read before. -/
import Derived.Test.YtpkcbdhjnnnkbaaGreatMEntryDecodes4
import Derived.Test.YtpkcbdhjnnnkbaaGreatMEntryDecodes3
import Derived.Test.YtpkcbdhjnnnkbaaGreatMEntryDecodes2
import Derived.Test.YtpkcbdhjnnnkbaaGreatRows
import Derived.WalkKit
import Derived.ProofKit
import Derived.OpenShut
import Derived.JoinedCond
import Derived.ChangeArms
import Derived.Carry
set_option linter.unusedSimpArgs false
set_option linter.unusedVariables false
set_option maxHeartbeats 1000000
set_option maxRecDepth 10000
namespace Go.Proofs.YtpkcbdhjnnnkbaaGreat.Abs
open Go
theorem cnt_rng (s:SB) (m:Int) (h0:0≤m):0≤(cntS s m).1∧(cntS s m).1≤m:=by
 cases h:(takeS s (gP s).2 (rightS (gP s).1 m)).1 with
 | false=>rw [cntS_no h];omega
 | true=>
  rw [cntS_yes h];have hr:rightS (gP s).1 m=true:=by
   unfold takeS at h;split at h
   ·cases h
   ·rename_i hq;cases hz:rightS (gP s).1 m with
    | true=>rfl
    | false=>exact absurd (Or.inr (Or.inr hz)) hq
  simp only [rightS,Bool.and_eq_true,decide_eq_true_eq] at hr;have hw:IntKind.i64.wrap ((gP s).1:Int)=((gP s).1:Int):=wrap_i64 (by omega) (by omega);rw [hw] at hr ⊢;omega
theorem encVs_app (xs:List Val) (v:Val):encVs (xs++[v])=encVs xs++[encV v]:=by simp [encVs_map]
theorem rdIs_doc {rd:SB→Val×SB} {doc:Bool} {n:Nat} {s:SB} {xs:List Val} {ns:List Str} (hd:doc=true) (hb:¬ s.2=true):rdIs rd doc (n+1) s xs ns=rdIs rd doc n (rd (txtS s 32).2).2 (xs++[(rd (txtS s 32).2).1]) (ns++[(txtS s 32).1]):=by
 subst hd;simp only [rdIs,if_neg hb,if_true]
theorem rdIs_arr {rd:SB→Val×SB} {doc:Bool} {n:Nat} {s:SB} {xs:List Val} {ns:List Str} (hd:¬ doc=true) (hb:¬ s.2=true):rdIs rd doc (n+1) s xs ns=rdIs rd doc n (rd s).2 (xs++[(rd s).1]) ns:=by
 simp only [rdIs,if_neg hb,if_neg hd]
theorem rdIs_bad {rd:SB→Val×SB} {doc:Bool} {n:Nat} {s:SB} {xs:List Val} {ns:List Str} (hb:s.2=true):rdIs rd doc n s xs ns=(xs,ns,s):=by
 cases n with
 | zero=>rfl
 | succ n=>simp only [rdIs,if_pos hb]
theorem fn180:FnOkC Tryz.prog 180 33 [.cell 6 27] (bodyOf Tryz.f180):=⟨Tryz.f180,Tryz.func180,by kernel_rfl,by decide,by kernel_rfl,by kernel_rfl⟩
theorem s180 (e:Nat) (ih:∀ s:SB,s.1.length≤4611686018427387904→MSpec Tryz.prog 151 (fun k=>[.loc k 0,.d (.int .i64 e)]) (srcS s) (srcS (rdV e s).2) (.d (encV (rdV e s).1))) (kd:Int) (s:SB) (hx:s.1.length≤4611686018427387904):MSpec Tryz.prog 180 (fun k=>[.loc k 0,.d (.agg [.int .i64 kd,.int .i64 0,.str [],.nil,.nil]),.d (.int .i64 e)]) (srcS s) (srcS (rdIs (rdV e) (decide (kd=7)) (cntS s 4096).1.toNat (cntS s 4096).2 [] []).2.2) (.d (encV (.mk kd 0 [] (rdIs (rdV e) (decide (kd=7)) (cntS s 4096).1.toNat (cntS s 4096).2 [] []).1 (rdIs (rdV e) (decide (kd=7)) (cntS s 4096).1.toNat (cntS s 4096).2 [] []).2.1))):=by
 have hcr:=cnt_rng s 4096 (by decide);have hcl:=cnt_le s 4096;refine MSpec.ofC tabOk fn180 (fun _=>by simp) (fun _=>by first | exact srcS_lts _ _ | simp [SV.lts,SV.lt]) fun o nk k hkn hM=>?_;refine wr ?_;refine u_step (g_box rfl fun o2 hb2 hk2=>?_);have hM_2:=(hk2 _ (by omega)).trans hM;refine u_step (g_alloc th27 rfl fun o3 hb3 hk3=>?_);have hM_3:=(hk3 _ (by omega)).trans hM_2;have hb2_3:=(hk3 _ (by omega)).trans hb2;refine u_nil (WP.seq fun K4 hK4=>?_);refine wr (uM ?_);refine u_step (g_mcall (s92 s 4096) hM_3 rfl fun o6 hb6 hk6=>?_);have hb2_6:=(hk6 _ (by omega)).trans hb2_3;have hb3_6:=(hk6 _ (by omega)).trans hb3;refine um (u_nil (WP.block ?_));refine WP.loopL (ι:=Nat×SB×List Val×List Str×SV×Option Nat×SV×Option Nat×Nat×Nat×(Nat→Option AO)×Nat) (fun ⟨i,s1,xs,ns,c,q,c2,q2,a,b,o2,nk2⟩=>⟨al [(0,.loc k 0),(2,.d (.int .i64 e)),(4,.loc nk 0),(6,.loc (nk+1) 0),(8,.d (.int .i64 (cntS s 4096).1)),(9,.d (.int .i64 i))],o2,nk2⟩) (fun ⟨i,s1,xs,ns,c,q,c2,q2,a,b,o2,nk2⟩=>i≤(cntS s 4096).1.toNat∧nk+2≤nk2∧s1.1.length≤4611686018427387904∧xs.length≤i∧ns.length≤i∧rdIs (rdV e) (decide (kd=7)) ((cntS s 4096).1.toNat - i) s1 xs ns=rdIs (rdV e) (decide (kd=7)) (cntS s 4096).1.toNat (cntS s 4096).2 [] []∧o2 k=some (.box (srcS s1))∧o2 nk=some (.box [.d (.int .i64 kd),.d (.int .i64 0),.d (.str []),c,c2])∧o2 (nk+1)=some (.box [.d (.int .i64 0),.d (.int .i64 0),.d (.str []),.d .nil,.d .nil])∧dstOf o2 27 5 c=some (q,encVs xs)∧(∀ t,q=some t→nk+2≤t∧t < nk2∧t=a)∧dstOf o2 9 1 c2=some (q2,ns.map .str)∧(∀ t,q2=some t→nk+2≤t∧t < nk2∧t=b)∧a < nk2∧b < nk2∧a≠b∧∀ t,t < nk∧t≠k→o2 t=o t) (fun ⟨i,s1,xs,ns,c,q,c2,q2,a,b,o2,nk2⟩=>(cntS s 4096).1.toNat - i) (fun ⟨i,s1,xs,ns,c,q,c2,q2,a,b,o2,nk2⟩ hA=>?_) ⟨0,(cntS s 4096).2,[],[],.d .nil,none,.d .nil,none,0,1,o6,((nk+1)+1)⟩ ?_ ?_
 ·
  obtain ⟨hle,hnk,hsl,hxl,hnl,heq,hsk,hob,hzb,hd,hq,hd2,hq2,hal,hbl,hab,hfr⟩:=hA;refine wr ?_;refine ub ?_;refine u_nil ?_;refine WP.seq fun K8 hK8=>?_;refine wc (fun hc9=>?_) (fun hc9=>?_) <;> try simp only [Q0,Q1,Q2,Q3,Q4,Q5,Q6,Q7,Q8,ge_iff_le,gt_iff_lt] at hc9
  ·
   have hlt:i < (cntS s 4096).1.toNat:=by have hq:=hc9;(try simp at hq);omega
   refine WP.skip ?_;refine hK8 _ ?_;refine WP.seq fun K10 hK10=>?_;refine WP.block ?_;refine WP.seq fun K11 hK11=>?_;refine wr ?_;refine uM ?_;refine u_step (o_scall (s41 s1 hsk) rfl ?_);refine u_nil ?_;refine wc (fun hc13=>?_) (fun hc13=>?_) <;> try simp only [Q0,Q1,Q2,Q3,Q4,Q5,Q6,Q7,Q8,ge_iff_le,gt_iff_lt] at hc13
   ·
    have hbad:s1.2=true:=by simpa using hc13
    have hfin:rdIs (rdV e) (decide (kd=7)) (cntS s 4096).1.toNat (cntS s 4096).2 [] []=(xs,ns,s1):=by rw [← heq];exact rdIs_bad hbad
    refine WP.exit ?_;refine hK4 _ ?_;refine WP.frzC2 (pre:=[.d (.int .i64 kd),.d (.int .i64 0),.d (.str [])]) (post:=[]) [(4,.loc nk 0),(6,.loc (nk+1) 0)] nk hob hd hd2 (fun t h1 h2=>by have:=hq t h1;have:=hq2 t h2;omega) (Nat.le_refl _) (fun t d=>⟨rfl,rfl⟩) (fun t d=>by simp only [List.forall_mem_cons];exact ⟨⟨rfl,rfl⟩,⟨rfl,rfl⟩,by simp⟩) (by simp only [List.forall_mem_cons];exact ⟨rfl,rfl,by simp⟩) (by simp only [List.forall_mem_cons];exact ⟨rfl,rfl,by simp⟩) fun o9 hB9 hk9 hm9=>?_;have hZ9:=hm9 _ _ (by omega) hzb fun t d=>rfl;have hF9:∀ t,t < nk→o9 t=o2 t:=fun t ht=>hk9 t ht (fun h=>by have:=hq t h;omega) (fun h=>by have:=hq2 t h;omega);have hM9:=(hF9 _ hkn).trans hsk;refine wr (ug th27 hB9 ?_);refine u_step0 (g_sta rfl rfl th27 rfl hZ9 (by first | (simp;done) | (simp [D.leaves,D.width,valCells];done) | decide) fun o15 hb15 hk15=>?_);have hM9_15:=(hk15 _ (by omega)).trans hM9;have hB9_15:=(hk15 _ (by omega)).trans hB9;refine u_nil (WP.ret ?_);refine retCM_ok (resis_agg rfl th27 rfl hb15 rfl rfl rfl) ?_ (by omega) (by rw [hfin];exact hM9_15) (fun t ht=>(hk15 t (by omega)).trans ((hF9 t (by omega)).trans ((hfr t (by omega)))));rw [hfin];exact D.le_refl _
   ·
    have hbad:¬ s1.2=true:=by simpa using hc13
    refine WP.skip ?_;refine hK11 _ ?_;refine WP.seq fun K16 hK16=>?_;refine wr ?_;refine uf th27 th3 hob ?_;refine ul th3 hob ?_;refine ub ?_;refine u_nil ?_;refine wc (fun hc18=>?_) (fun hc18=>?_) <;> try simp only [Q0,Q1,Q2,Q3,Q4,Q5,Q6,Q7,Q8,ge_iff_le,gt_iff_lt] at hc18
    ·
     have h7:decide (kd=7)=true:=by simpa using hc18
     refine WP.dr3 [.q 0 1,.q 0 1,.q 0 0,.w 0,.q 1 1,.w 1,.q 2 2,.w 2] [3,5,7] nk2 (nk2+1) (nk2+1) tabOk (by kernel_rfl) rfl (by kernel_rfl) (by kernel_rfl) ?_;apply Exists.intro;apply Exists.intro;apply Exists.intro;refine e_step2 rfl rfl (o_fa_loc rfl th27 rfl rfl th22 (by decide) hob ⟨rfl,rfl,rfl⟩) ?_ ?_;rotate_left;refine e_step2 rfl rfl (o_ld_locV rfl th22 rfl hob rfl ⟨rfl,rfl,rfl⟩) ?_ ?_;rotate_left;refine e_step rfl (o_moveV (v:=.loc _ _) rfl ⟨rfl,rfl,rfl⟩) ?_;refine e_w rfl rfl (w_mcall (s107 s1 32 (by omega)) hsk rfl ⟨rfl,rfl,rfl⟩) ?_;refine e_step rfl (o_bs rfl th22 rfl th9 rfl rfl (by decide) rfl (by decide) (by decide) ⟨rfl,rfl,rfl⟩) ?_;refine e_w rfl rfl (w_apD rfl th22 rfl th9 rfl rfl (by decide) rfl (dst_keep hd2 fun t e=>(by have:=hq2 t e;exact upd_ne _ _ (by omega))) (by simp only [List.length_map,List.length_cons,List.length_nil];omega) (by simp only [List.length_map,List.length_cons,List.length_nil];omega) ⟨rfl,rfl,rfl⟩) ?_;refine e_step rfl (o_fa_loc rfl th27 rfl rfl th22 (by decide) (((upd_ne _ _ (by omega)).trans (killo_ne (fun e=>by have:=hq2 _ e;omega))).trans ((upd_ne _ _ (by omega)).trans hob)) ⟨rfl,rfl,rfl⟩) ?_;refine e_w0 rfl rfl (w_stV rfl rfl (upd_same _ _ _) th22 rfl (((upd_ne _ _ (by omega)).trans (killo_ne (fun e=>by have:=hq2 _ e;omega))).trans ((upd_ne _ _ (by omega)).trans hob)) (by simp) ⟨rfl,rfl,rfl⟩) ?_;refine e_nil rfl fun o22 ho22=>?_;have hbZ_22:=(ho22 _).trans ((upd_ne _ _ (by omega)).trans (((upd_ne _ _ (by omega)).trans (killo_ne (fun e=>by have:=hq2 _ e;omega))).trans ((upd_ne _ _ (by omega)).trans hzb)));have hdC_22:=dst_keep (o':=o22) hd fun t e=>(by have:=hq t e;exact (ho22 t).trans ((upd_ne _ _ (by omega)).trans (((upd_ne _ _ (by omega)).trans (killo_ne (fun e=>by have:=hq2 _ e;omega))).trans (upd_ne _ _ (by omega)))));have hbM_22:=(ho22 _).trans ((upd_ne _ _ (by omega)).trans (((upd_ne _ _ (by omega)).trans (killo_ne (fun e=>by have:=hq2 _ e;omega))).trans (upd_same _ _ _)));have hbr20_22:=(ho22 _).trans ((upd_ne _ _ (by omega)).trans (upd_same _ _ _));have hbB_22:=(ho22 _).trans (upd_same _ _ _);have hk22:∀ t,t < nk∧t≠k→o22 t=o2 t:=fun t ht=>(ho22 t).trans ((upd_ne _ _ (by omega)).trans (((upd_ne _ _ (by omega)).trans (killo_ne (fun e=>by have:=hq2 _ e;omega))).trans (upd_ne _ _ (by omega))))
     ·
      refine hK16 _ ?_;refine WP.dr3 [.q 0 1,.q 0 1,.q 0 0,.q 0 0,.w 0,.q 1 1,.w 1,.q 2 2,.w 2] [4,6,8] (nk2+1) ((nk2+1)+1) ((nk2+1)+1) tabOk (by kernel_rfl) rfl (by kernel_rfl) (by kernel_rfl) ?_;apply Exists.intro;apply Exists.intro;apply Exists.intro;refine e_step2 rfl rfl (o_fa_loc rfl th27 rfl rfl th25 (by decide) hbB_22 ⟨rfl,rfl,rfl⟩) ?_ ?_;rotate_left;refine e_step2 rfl rfl (o_ld_locV rfl th25 rfl hbB_22 rfl ⟨rfl,rfl,rfl⟩) ?_ ?_;rotate_left;refine e_step rfl (o_moveV (v:=.loc _ _) rfl ⟨rfl,rfl,rfl⟩) ?_;refine e_step rfl (o_move rfl ⟨rfl,rfl,rfl⟩) ?_;refine e_w rfl rfl (w_mcall (ih _ (by have:=txt_le s1 32;omega)) hbM_22 rfl ⟨rfl,rfl,rfl⟩) ?_
      first | refine e_step rfl (o_bs rfl th25 rfl th27 rfl rfl (by decide) rfl (by decide) (by decide) ⟨rfl,rfl,rfl⟩) ?_ | refine e_step rfl (o_bs1 rfl (by simp only [encV_width]) th25 rfl th27 rfl rfl (by decide) (by decide) ⟨rfl,rfl,rfl⟩) ?_
      refine e_w rfl rfl (w_apD rfl th25 rfl th27 rfl rfl (by decide) rfl (dst_keep hdC_22 fun t e=>(by have:=hq t e;exact upd_ne _ _ (by omega))) (by simp only [encVs_length,List.length_cons,List.length_nil];omega) (by simp only [encVs_length,List.length_cons,List.length_nil];omega) ⟨rfl,rfl,rfl⟩) ?_;refine e_step rfl (o_fa_loc rfl th27 rfl rfl th25 (by decide) (((upd_ne _ _ (by omega)).trans (killo_ne (fun e=>by have:=hq _ e;omega))).trans ((upd_ne _ _ (by omega)).trans hbB_22)) ⟨rfl,rfl,rfl⟩) ?_;refine e_w0 rfl rfl (w_stV rfl rfl (upd_same _ _ _) th25 rfl (((upd_ne _ _ (by omega)).trans (killo_ne (fun e=>by have:=hq _ e;omega))).trans ((upd_ne _ _ (by omega)).trans hbB_22)) (by simp) ⟨rfl,rfl,rfl⟩) ?_;refine e_nil rfl fun o26 ho26=>?_;have hbZ_26:=(ho26 _).trans ((upd_ne _ _ (by omega)).trans (((upd_ne _ _ (by omega)).trans (killo_ne (fun e=>by have:=hq _ e;omega))).trans ((upd_ne _ _ (by omega)).trans hbZ_22)));have hbr20_26:=(ho26 _).trans ((upd_ne _ _ (by omega)).trans (((upd_ne _ _ (by omega)).trans (killo_ne (fun e=>by have:=hq _ e;omega))).trans ((upd_ne _ _ (by omega)).trans hbr20_22)));have hbM_26:=(ho26 _).trans ((upd_ne _ _ (by omega)).trans (((upd_ne _ _ (by omega)).trans (killo_ne (fun e=>by have:=hq _ e;omega))).trans (upd_same _ _ _)));have hbr24_26:=(ho26 _).trans ((upd_ne _ _ (by omega)).trans (upd_same _ _ _));have hbB_26:=(ho26 _).trans (upd_same _ _ _);have hk26:∀ t,t < nk∧t≠k→o26 t=o22 t:=fun t ht=>(ho26 t).trans ((upd_ne _ _ (by omega)).trans (((upd_ne _ _ (by omega)).trans (killo_ne (fun e=>by have:=hq _ e;omega))).trans (upd_ne _ _ (by omega))))
      ·
       refine hK10 _ (WP.reg tabOk rfl ?_);refine ub (um (u_nil ?_));refine ⟨⟨i+1,(rdV e (txtS s1 32).2).2,xs++[(rdV e (txtS s1 32).2).1],ns++[(txtS s1 32).1],.row _,some _,.row _,some _,_,_,o26,((nk2+1)+1)⟩,⟨by omega,by omega,by have:=rdV_le e (txtS s1 32).2;have:=txt_le s1 32;omega,by simp;omega,by simp;omega,?_,hbM_26,hbB_26,hbZ_26,(encVs_app xs _).symm ▸ dst_row hbr24_26,fun t e=>by injection e with e;exact ⟨by omega,by omega,e.symm⟩,(List.map_append (f:=D.str) (l₁:=ns) (l₂:=[(txtS s1 32).1])).symm ▸ dst_row hbr20_26,fun t e=>by injection e with e;exact ⟨by omega,by omega,e.symm⟩,by omega,by omega,by omega,(fun t ht=>(hk26 t (by omega)).trans ((hk22 t (by omega)).trans ((hfr t (by omega)))))⟩,by simp only;omega,Le.al ?_⟩
       ·rw [← heq,show (cntS s 4096).1.toNat - i=((cntS s 4096).1.toNat - (i+1))+1 by omega];exact (rdIs_doc h7 hbad).symm
       ·simp only [List.forall_mem_cons];exact ⟨rfl,rfl,rfl,rfl,rfl,cnt (by omega),by simp⟩
      exact o_fa_loc rfl th27 rfl rfl th25 (by decide) ((upd_ne _ _ (by omega)).trans hbB_22) ⟨rfl,rfl,rfl⟩;exact o_ld_locV rfl th25 rfl ((upd_ne _ _ (by omega)).trans hbB_22) rfl ⟨rfl,rfl,rfl⟩
     exact o_fa_loc rfl th27 rfl rfl th22 (by decide) ((upd_ne _ _ (by omega)).trans hob) ⟨rfl,rfl,rfl⟩;exact o_ld_locV rfl th22 rfl ((upd_ne _ _ (by omega)).trans hob) rfl ⟨rfl,rfl,rfl⟩
    ·
     have h7:¬ decide (kd=7)=true:=by simpa using hc18
     refine WP.skip (hK16 _ ?_);refine WP.dr3 [.q 0 1,.q 0 1,.q 0 0,.q 0 0,.w 0,.q 1 1,.w 1,.q 2 2,.w 2] [4,6,8] nk2 (nk2+1) (nk2+1) tabOk (by kernel_rfl) rfl (by kernel_rfl) (by kernel_rfl) ?_;apply Exists.intro;apply Exists.intro;apply Exists.intro;refine e_step2 rfl rfl (o_fa_loc rfl th27 rfl rfl th25 (by decide) hob ⟨rfl,rfl,rfl⟩) ?_ ?_;rotate_left;refine e_step2 rfl rfl (o_ld_locV rfl th25 rfl hob rfl ⟨rfl,rfl,rfl⟩) ?_ ?_;rotate_left;refine e_step rfl (o_moveV (v:=.loc _ _) rfl ⟨rfl,rfl,rfl⟩) ?_;refine e_step rfl (o_move rfl ⟨rfl,rfl,rfl⟩) ?_;refine e_w rfl rfl (w_mcall (ih _ (by have:=txt_le s1 32;omega)) hsk rfl ⟨rfl,rfl,rfl⟩) ?_
     first | refine e_step rfl (o_bs rfl th25 rfl th27 rfl rfl (by decide) rfl (by decide) (by decide) ⟨rfl,rfl,rfl⟩) ?_ | refine e_step rfl (o_bs1 rfl (by simp only [encV_width]) th25 rfl th27 rfl rfl (by decide) (by decide) ⟨rfl,rfl,rfl⟩) ?_
     refine e_w rfl rfl (w_apD rfl th25 rfl th27 rfl rfl (by decide) rfl (dst_keep hd fun t e=>(by have:=hq t e;exact upd_ne _ _ (by omega))) (by simp only [encVs_length,List.length_cons,List.length_nil];omega) (by simp only [encVs_length,List.length_cons,List.length_nil];omega) ⟨rfl,rfl,rfl⟩) ?_;refine e_step rfl (o_fa_loc rfl th27 rfl rfl th25 (by decide) (((upd_ne _ _ (by omega)).trans (killo_ne (fun e=>by have:=hq _ e;omega))).trans ((upd_ne _ _ (by omega)).trans hob)) ⟨rfl,rfl,rfl⟩) ?_;refine e_w0 rfl rfl (w_stV rfl rfl (upd_same _ _ _) th25 rfl (((upd_ne _ _ (by omega)).trans (killo_ne (fun e=>by have:=hq _ e;omega))).trans ((upd_ne _ _ (by omega)).trans hob)) (by simp) ⟨rfl,rfl,rfl⟩) ?_;refine e_nil rfl fun o30 ho30=>?_;have hbZ_30:=(ho30 _).trans ((upd_ne _ _ (by omega)).trans (((upd_ne _ _ (by omega)).trans (killo_ne (fun e=>by have:=hq _ e;omega))).trans ((upd_ne _ _ (by omega)).trans hzb)));have hdE_30:=dst_keep (o':=o30) hd2 fun t e=>(by have:=hq2 t e;exact (ho30 t).trans ((upd_ne _ _ (by omega)).trans (((upd_ne _ _ (by omega)).trans (killo_ne (fun e=>by have:=hq _ e;omega))).trans (upd_ne _ _ (by omega)))));have hbM_30:=(ho30 _).trans ((upd_ne _ _ (by omega)).trans (((upd_ne _ _ (by omega)).trans (killo_ne (fun e=>by have:=hq _ e;omega))).trans (upd_same _ _ _)));have hbr28_30:=(ho30 _).trans ((upd_ne _ _ (by omega)).trans (upd_same _ _ _));have hbB_30:=(ho30 _).trans (upd_same _ _ _);have hk30:∀ t,t < nk∧t≠k→o30 t=o2 t:=fun t ht=>(ho30 t).trans ((upd_ne _ _ (by omega)).trans (((upd_ne _ _ (by omega)).trans (killo_ne (fun e=>by have:=hq _ e;omega))).trans (upd_ne _ _ (by omega))))
     ·
      refine hK10 _ (WP.reg tabOk rfl ?_);refine ub (um (u_nil ?_));refine ⟨⟨i+1,(rdV e s1).2,xs++[(rdV e s1).1],ns,.row _,some _,c2,q2,_,b,o30,(nk2+1)⟩,⟨by omega,by omega,by have:=rdV_le e s1;omega,by simp;omega,by omega,?_,hbM_30,hbB_30,hbZ_30,(encVs_app xs _).symm ▸ dst_row hbr28_30,fun t e=>by injection e with e;exact ⟨by omega,by omega,e.symm⟩,hdE_30,fun t e=>by have:=hq2 t e;omega,by omega,by omega,by omega,(fun t ht=>(hk30 t (by omega)).trans ((hfr t (by omega))))⟩,by simp only;omega,Le.al ?_⟩
      ·rw [← heq,show (cntS s 4096).1.toNat - i=((cntS s 4096).1.toNat - (i+1))+1 by omega];exact (rdIs_arr h7 hbad).symm
      ·simp only [List.forall_mem_cons];exact ⟨rfl,rfl,rfl,rfl,rfl,cnt (by omega),by simp⟩
     exact o_fa_loc rfl th27 rfl rfl th25 (by decide) ((upd_ne _ _ (by omega)).trans hob) ⟨rfl,rfl,rfl⟩;exact o_ld_locV rfl th25 rfl ((upd_ne _ _ (by omega)).trans hob) rfl ⟨rfl,rfl,rfl⟩
  ·
   have hge:(cntS s 4096).1.toNat - i=0:=by have hq:=hc9;(try simp at hq);omega
   have hfin:rdIs (rdV e) (decide (kd=7)) (cntS s 4096).1.toNat (cntS s 4096).2 [] []=(xs,ns,s1):=by rw [← heq,hge];rfl
   refine WP.exit ?_;refine hK4 _ ?_;refine WP.frzC2 (pre:=[.d (.int .i64 kd),.d (.int .i64 0),.d (.str [])]) (post:=[]) [(4,.loc nk 0),(6,.loc (nk+1) 0)] nk hob hd hd2 (fun t h1 h2=>by have:=hq t h1;have:=hq2 t h2;omega) (Nat.le_refl _) (fun t d=>⟨rfl,rfl⟩) (fun t d=>by simp only [List.forall_mem_cons];exact ⟨⟨rfl,rfl⟩,⟨rfl,rfl⟩,by simp⟩) (by simp only [List.forall_mem_cons];exact ⟨rfl,rfl,by simp⟩) (by simp only [List.forall_mem_cons];exact ⟨rfl,rfl,by simp⟩) fun o9 hB9 hk9 hm9=>?_;have hZ9:=hm9 _ _ (by omega) hzb fun t d=>rfl;have hF9:∀ t,t < nk→o9 t=o2 t:=fun t ht=>hk9 t ht (fun h=>by have:=hq t h;omega) (fun h=>by have:=hq2 t h;omega);have hM9:=(hF9 _ hkn).trans hsk;refine wr (ug th27 hB9 ?_);refine u_step0 (g_sta rfl rfl th27 rfl hZ9 (by first | (simp;done) | (simp [D.leaves,D.width,valCells];done) | decide) fun o32 hb32 hk32=>?_);have hM9_32:=(hk32 _ (by omega)).trans hM9;have hB9_32:=(hk32 _ (by omega)).trans hB9;refine u_nil (WP.ret ?_);refine retCM_ok (resis_agg rfl th27 rfl hb32 rfl rfl rfl) ?_ (by omega) (by rw [hfin];exact hM9_32) (fun t ht=>(hk32 t (by omega)).trans ((hF9 t (by omega)).trans ((hfr t (by omega)))));rw [hfin];exact D.le_refl _
 ·
  refine ⟨by omega,by omega,by omega,by simp,by simp,rfl,hb6,hb2_6,hb3_6,rfl,by simp,rfl,by simp,by omega,by omega,by decide,(fun t ht=>(hk6 t (by omega)).trans ((hk3 t (by omega)).trans ((hk2 t (by omega)))))⟩
 ·
  refine Le.al ?_;simp only [List.forall_mem_cons];exact ⟨rfl,rfl,rfl,rfl,rfl,rfl,by simp⟩
def pot (s:SB):Nat:=s.1.length+(if s.2=true then 0 else 2)
theorem pot_no (b:List UInt8):pot (b,true)=b.length:=rfl
theorem pot_ok (b:List UInt8):pot (b,false)=b.length+2:=rfl
theorem pot_bad {s:SB} (h:s.2=true):pot s=s.1.length:=by unfold pot;rw [if_pos h];rfl
theorem pot_good {s:SB} (h:s.2=false):pot s=s.1.length+2:=by unfold pot;rw [if_neg (by rw [h];decide)]
theorem pot_byte (s:SB):pot (rdByte s).2+(if s.2=true then 0 else 1)≤pot s:=by
 cases hb:s.2 with
 | true=>rw [rdByte_no (.inl hb)];rw [pot_no,pot_bad hb];simp
 | false=>
  rcases Nat.eq_zero_or_pos s.1.length with hz | hz
  ·rw [rdByte_no (.inr (List.length_eq_zero_iff.1 hz)),pot_no,pot_good hb];simp
  ·rw [rdByte_ok hb hz,pot_ok,pot_good hb];simp;omega
theorem pot_take (s:SB) (n:Nat) (r:Bool):pot (takeS s n r).2≤pot s:=by
 unfold takeS;split
 ·rw [pot_no];unfold pot;omega
 ·rename_i h;have hb:s.2=false:=by cases hb:s.2 with
   | false=>rfl
   | true=>exact absurd (.inl hb) h
  rw [pot_ok,pot_good hb];simp
theorem pot_cnt (s:SB) (m:Int):pot (cntS s m).2≤pot s:=pot_take _ _ _
theorem pot_int (s:SB):pot (intS s).2≤pot s:=pot_take _ _ _
theorem pot_txt (s:SB) (m:Int) (hx:s.1.length≤4611686018427387904):(txtS s m).1.length+pot (txtS s m).2+(if s.2=true then 0 else 1)≤pot s:=by
 cases h:txtBad s m with
 | true=>
  rw [txtS_no h,pot_no];cases hb:s.2 with
  | true=>rw [pot_bad hb];simp
  | false=>rw [pot_good hb];simp
 | false=>
  have hf:=txt_fits (by omega) h;have h0:¬ (gP s).2=0:=by
   simp only [txtBad,Bool.or_eq_false_iff,decide_eq_false_iff_not,beq_eq_false_iff_ne,ne_eq] at h;have:=h.2;omega
  rw [txtS_ok h,pot_ok,pot_good hf.1,hf.1];simp only [List.length_drop,List.length_take,Bool.false_eq_true,if_false];omega
theorem szN_app (ns:List Str) (t:Str):szN (ns++[t])=szN ns+(t.length+1):=by
 induction ns with
 | nil=>simp [szN]
 | cons a r ih=>simp only [List.cons_append,szN,ih];omega
theorem szVs_app (xs:List Val) (v:Val):szVs (xs++[v])=szVs xs+szV v:=by
 induction xs with
 | nil=>simp [szVs]
 | cons a r ih=>simp only [List.cons_append,szVs,ih];omega
theorem rngVs_app (xs:List Val) (v:Val) (h:rngVs xs) (hv:rngV v):rngVs (xs++[v]):=by
 induction xs with
 | nil=>exact ⟨hv,trivial⟩
 | cons a r ih=>exact ⟨h.1,ih h.2⟩
theorem rdIs_sz {rd:SB→Val×SB} (hle:∀ s,(rd s).2.1.length≤s.1.length) (hrd:∀ s,s.1.length≤4611686018427387904→szV (rd s).1+pot (rd s).2≤pot s+(if s.2=true then 1 else 0)) (doc:Bool):∀ (n:Nat) (s:SB) (xs:List Val) (ns:List Str),s.1.length≤4611686018427387904→
    szVs (rdIs rd doc n s xs ns).1+szN (rdIs rd doc n s xs ns).2.1+pot (rdIs rd doc n s xs ns).2.2≤szVs xs+szN ns+pot s
  | 0,s,xs,ns,hx=>Nat.le_refl _
  | n+1,s,xs,ns,hx=>by
    cases hb:s.2 with
    | true=>rw [rdIs_bad hb];exact Nat.le_refl _
    | false=>
      have hb':¬ s.2=true:=by rw [hb];decide
      cases doc with
      | true=>
        rw [rdIs_doc rfl hb'];have h1:=txt_le s 32;have h2:=hrd (txtS s 32).2 (by omega);have h3:=pot_txt s 32 hx;have h4:=rdIs_sz hle hrd true n (rd (txtS s 32).2).2 (xs++[(rd (txtS s 32).2).1]) (ns++[(txtS s 32).1]) (by have:=hle (txtS s 32).2;omega);rw [szVs_app,szN_app] at h4;rw [if_neg hb'] at h3;have h5:(txtS s 32).1.length+pot (txtS s 32).2+(if (txtS s 32).2.2=true then 1 else 0)+1≤pot s:=by
          cases hz:txtBad s 32 with
          | true=>rw [txtS_no hz,pot_no,pot_good hb];simp
          | false=>rw [txtS_ok hz] at h3 ⊢;simp at h3 ⊢;omega
        omega
      | false=>
        rw [rdIs_arr (by decide) hb'];have h2:=hrd s hx;have h4:=rdIs_sz hle hrd false n (rd s).2 (xs++[(rd s).1]) ns (by have:=hle s;omega);rw [szVs_app] at h4;rw [if_neg hb'] at h2;omega
theorem rdV_sz:∀ (d:Nat) (s:SB),s.1.length≤4611686018427387904→szV (rdV d s).1+pot (rdV d s).2≤pot s+(if s.2=true then 1 else 0)
 | 0,s,hx=>by
  have h1:=pot_byte s;have h2:pot ((rdByte s).2.1,true)≤pot (rdByte s).2:=by rw [pot_no];unfold pot;omega
  simp only [rdV,szV,szVs,szN,List.length_nil];split at h1 <;> simp_all <;> omega
 | d+1,s,hx=>by
  have h1:=pot_byte s;have hb:=byte_le s;have h2:pot ((rdByte s).2.1,true)≤pot (rdByte s).2:=by rw [pot_no];unfold pot;omega
  have h3:=pot_byte (rdByte s).2;have h4:=pot_int (rdByte s).2;have h5:=pot_txt (rdByte s).2 4096 (by omega);have h6:=pot_cnt (rdByte s).2 4096;have h7:=rdIs_sz (rd:=rdV d) (rdV_le d) (rdV_sz d) (decide ((rdByte s).1=7)) (cntS (rdByte s).2 4096).1.toNat (cntS (rdByte s).2 4096).2 [] [] (by have:=cnt_le (rdByte s).2 4096;omega);simp only [szVs,szN] at h7;have h8:1+pot (rdByte s).2≤pot s+(if s.2=true then 1 else 0):=by split at h1 <;> simp_all <;> omega
  obtain ⟨q,hq⟩:∃ q:Nat,(if s.2=true then 1 else 0)=q:=⟨_,rfl⟩;rw [hq] at h8 ⊢;clear h1 hq;simp only [rdV]
  repeat' split
  all_goals simp only [szV,szVs,szN,List.length_nil]
  all_goals omega
theorem rngs_rdIs {rd:SB→Val×SB} (hrd:∀ s,rngV (rd s).1) (doc:Bool):∀ (n:Nat) (s:SB) (xs:List Val) (ns:List Str),rngVs xs→rngVs (rdIs rd doc n s xs ns).1
 | 0,s,xs,ns,h=>h
 | n+1,s,xs,ns,h=>by
  simp only [rdIs];split
  ·exact h
  ·exact rngs_rdIs hrd doc n _ _ _ (rngVs_app _ _ h (hrd _))
theorem byte_rng (s:SB):0≤(rdByte s).1∧(rdByte s).1≤255:=by
 unfold rdByte;split
 ·simp
 ·have:=(s.1.headD 0).toNat_lt;simp only;omega
theorem int_rng (s:SB):-9223372036854775808≤(intS s).1∧(intS s).1≤9223372036854775807:=by
 have h:=(gP_len s).2.1;unfold intS;simp only;split
 ·unfold zagI;split <;> omega
 ·omega
theorem rdV_rng:∀ (d:Nat) (s:SB),rngV (rdV d s).1
 | 0,s=>⟨by omega,trivial⟩
 | d+1,s=>by
  have hb:=byte_rng (rdByte s).2;have hi:=int_rng (rdByte s).2;simp only [rdV]
  repeat' split
  ·exact ⟨by omega,trivial⟩
  ·exact ⟨by omega,trivial⟩
  ·exact ⟨by omega,trivial⟩
  ·exact ⟨by omega,trivial⟩
  ·exact ⟨by omega,rngs_rdIs (rdV_rng d) _ _ _ _ _ trivial⟩
  ·exact ⟨by omega,trivial⟩
theorem rd151:∀ (d:Nat),d≤8→∀ s:SB,s.1.length≤4611686018427387904→MSpec Tryz.prog 151 (fun k=>[.loc k 0,.d (.int .i64 d)]) (srcS s) (srcS (rdV d s).2) (.d (encV (rdV d s).1))
 | 0,hd,s,hx=>s151 0 hd s hx (fun e he=>by omega)
 | d+1,hd,s,hx=>s151 (d+1) hd s hx (fun e he kd s hx=>s180 e (fun s hx=>by
  have h:e=d:=by omega
  rw [h];exact rd151 d (by omega) s hx) kd s hx)
def rdAll (s:SB):Val×SB:=if (rdV 8 s).2.2=true∨¬ checkV (rdV 8 s).1=0 then (.mk 0 0 [] [] [],((rdV 8 s).2.1,true)) else rdV 8 s
theorem rdAll_no {s:SB} (h:(rdV 8 s).2.2=true∨¬ checkV (rdV 8 s).1=0):rdAll s=(.mk 0 0 [] [] [],((rdV 8 s).2.1,true)):=if_pos h
theorem rdAll_ok {s:SB} (h:¬ ((rdV 8 s).2.2=true∨¬ checkV (rdV 8 s).1=0)):rdAll s=rdV 8 s:=if_neg h
theorem fn108:FnOkC Tryz.prog 108 17 [.cell 2 27] (bodyOf Tryz.f108):=⟨Tryz.f108,Tryz.func108,by kernel_rfl,by decide,by kernel_rfl,by kernel_rfl⟩
theorem s108 (s:SB) (hx:s.1.length≤1048576):MSpec Tryz.prog 108 (fun k=>[.loc k 0]) (srcS s) (srcS (rdAll s).2) (.d (encV (rdAll s).1)):=by
 have hsz:szV (rdV 8 s).1≤1099511627776:=by
  have h1:=rdV_sz 8 s (by omega);have h2:pot s≤s.1.length+2:=by (unfold pot;split <;> omega)
  split at h1 <;> omega
 refine MSpec.ofC tabOk fn108 (fun _=>by simp) (fun _=>by first | exact srcS_lts _ _ | simp [SV.lts,SV.lt]) fun o nk k hkn hM=>?_;refine wr ?_;refine u_step (g_alloc th27 rfl fun o2 hb2 hk2=>?_);have hM_2:=(hk2 _ (by omega)).trans hM;refine u_nil (wr (uM ?_));refine u_step (g_mcall (rd151 8 (by decide) s (by omega)) hM_2 rfl fun o4 hb4 hk4=>?_);have hb2_4:=(hk4 _ (by omega)).trans hb2;refine u_step (g_alloc th27 rfl fun o5 hb5 hk5=>?_);have hb2_5:=(hk5 _ (by omega)).trans hb2_4;have hb4_5:=(hk5 _ (by omega)).trans hb4;refine u_step0 (g_sta rfl (congrArg SV.d (encV_eq _)) th27 rfl hb5 (by simp [valCells]) fun o6 hb6 hk6=>?_);have hb2_6:=(hk6 _ (by omega)).trans hb2_5;have hb4_6:=(hk6 _ (by omega)).trans hb4_5;refine u_nil (WP.seq fun K7 hK7=>?_);refine wr (uM ?_);refine u_step (o_scall (s41 _ hb4_6) rfl ?_);refine um ?_;apply gF
 ·rfl
 ·intro hg;exact pg th27 hb6
 apply gF
 ·rfl
 ·intro hg;try simp only [hg,ct,Bt]
  refine o_pcall (pv (s123 (rdV 8 s).1 (rdV_rng 8 s) hsz)) rfl ⟨rfl,rfl,rfl⟩
 apply gF
 ·rfl
 ·intro hg;try simp only [hg,ct,Bt]
  exact pb
 refine uO ?_;refine u_nil ?_;refine wc (fun hc9=>?_) (fun hc9=>?_) <;> try simp only [Q0,Q1,Q2,Q3,Q4,Q5,Q6,Q7,Q8,ge_iff_le,gt_iff_lt] at hc9
 ·
  have hz:(rdV 8 s).2.2=true∨¬ checkV (rdV 8 s).1=0:=by have hq:=hc9;simpa using hq
  refine wr (uM ?_);refine u_step (g_mcall (s109 _) hb4_6 rfl fun o11 hb11 hk11=>?_);have hb2_11:=(hk11 _ (by omega)).trans hb2_6;have hb6_11:=(hk11 _ (by omega)).trans hb6;refine u_nil (wr ?_);refine u_step (o_bu rfl th27 rfl rfl ?_);refine u_step0 (g_sta rfl rfl th27 rfl hb2_11 (by first | (simp;done) | (simp [D.leaves,D.width,valCells];done) | decide) fun o13 hb13 hk13=>?_);have hb6_13:=(hk13 _ (by omega)).trans hb6_11;have hb11_13:=(hk13 _ (by omega)).trans hb11;refine u_nil (WP.ret ?_);refine retCM_ok (resis_agg rfl th27 rfl hb13 rfl rfl rfl) ?_ (by omega) (by rw [rdAll_no hz];exact hb11_13) (fun t ht=>(hk13 t (by omega)).trans ((hk11 t (by omega)).trans ((hk6 t (by omega)).trans ((hk5 t (by omega)).trans ((hk4 t (by omega)).trans ((hk2 t (by omega))))))));rw [rdAll_no hz];exact leV0 _ _ _
 ·
  have hz:¬ ((rdV 8 s).2.2=true∨¬ checkV (rdV 8 s).1=0):=by have hq:=hc9;simpa using hq
  refine WP.skip (hK7 _ (wr (ug th27 hb6 ?_)));refine u_step0 (g_sta rfl rfl th27 rfl hb2_6 (by first | (simp;done) | (simp [D.leaves,D.width,valCells];done) | decide) fun o15 hb15 hk15=>?_);have hb4_15:=(hk15 _ (by omega)).trans hb4_6;have hb6_15:=(hk15 _ (by omega)).trans hb6;refine u_nil (WP.ret ?_);refine retCM_ok (resis_agg rfl th27 rfl hb15 rfl rfl rfl) ?_ (by omega) (by rw [rdAll_ok hz];exact hb4_15) (fun t ht=>(hk15 t (by omega)).trans ((hk6 t (by omega)).trans ((hk5 t (by omega)).trans ((hk4 t (by omega)).trans ((hk2 t (by omega)))))));rw [rdAll_ok hz];rw [encV_eq];exact D.le_refl _
def rdR:Nat→SB→Val×SB
 | 0,s=>(.mk 0 0 [] [] [],((rdByte s).2.1,true))
 | d+1,s=>
  if (rdByte s).2.2=true then (.mk 0 0 [] [] [],(rdByte s).2)
  else if (rdByte s).1=1 then (.mk (rdByte s).1 0 [] [] [],(rdByte s).2)
  else if (rdByte s).1=2 then (.mk (rdByte s).1 (rdByte (rdByte s).2).1 [] [] [],(rdByte (rdByte s).2).2)
  else if (rdByte s).1=3 then (.mk (rdByte s).1 (intS (rdByte s).2).1 [] [] [],(intS (rdByte s).2).2)
  else if (rdByte s).1=4∨(rdByte s).1=5 then (.mk (rdByte s).1 0 (txtS (rdByte s).2 4096).1 [] [],(txtS (rdByte s).2 4096).2)
  else if (rdByte s).1=6∨(rdByte s).1=7 then
   (.mk (rdByte s).1 0 [] (rdIs (rdR d) (decide ((rdByte s).1=7)) (cntS (rdByte s).2 4096).1.toNat (cntS (rdByte s).2 4096).2 [] []).1 (rdIs (rdR d) (decide ((rdByte s).1=7)) (cntS (rdByte s).2 4096).1.toNat (cntS (rdByte s).2 4096).2 [] []).2.1,
    (rdIs (rdR d) (decide ((rdByte s).1=7)) (cntS (rdByte s).2 4096).1.toNat (cntS (rdByte s).2 4096).2 [] []).2.2)
  else (.mk (rdByte s).1 0 [] [] [],((rdByte s).2.1,true))
theorem rdR_le:∀ (d:Nat) (s:SB),(rdR d s).2.1.length≤s.1.length
 | 0,s=>byte_le s
 | d+1,s=>by
  have hb:=byte_le s;simp only [rdR]
  repeat' split
  ·exact hb
  ·exact hb
  ·exact Nat.le_trans (byte_le _) hb
  ·exact Nat.le_trans (int_le _) hb
  ·exact Nat.le_trans (txt_le _ _) hb
  ·exact Nat.le_trans (rdIs_le (rdR_le d) _ _ _ _ _) (Nat.le_trans (cnt_le _ _) hb)
  ·exact hb
theorem rdR_sz:∀ (d:Nat) (s:SB),s.1.length≤4611686018427387904→szV (rdR d s).1+pot (rdR d s).2≤pot s+(if s.2=true then 1 else 0)
 | 0,s,hx=>by
  have h1:=pot_byte s;have h2:pot ((rdByte s).2.1,true)≤pot (rdByte s).2:=by rw [pot_no];unfold pot;omega
  simp only [rdR,szV,szVs,szN,List.length_nil];split at h1 <;> simp_all <;> omega
 | d+1,s,hx=>by
  have h1:=pot_byte s;have hb:=byte_le s;have h2:pot ((rdByte s).2.1,true)≤pot (rdByte s).2:=by rw [pot_no];unfold pot;omega
  have h3:=pot_byte (rdByte s).2;have h4:=pot_int (rdByte s).2;have h5:=pot_txt (rdByte s).2 4096 (by omega);have h6:=pot_cnt (rdByte s).2 4096;have h7:=rdIs_sz (rd:=rdR d) (rdR_le d) (rdR_sz d) (decide ((rdByte s).1=7)) (cntS (rdByte s).2 4096).1.toNat (cntS (rdByte s).2 4096).2 [] [] (by have:=cnt_le (rdByte s).2 4096;omega);simp only [szVs,szN] at h7;have h8:1+pot (rdByte s).2≤pot s+(if s.2=true then 1 else 0):=by split at h1 <;> simp_all <;> omega
  obtain ⟨q,hq⟩:∃ q:Nat,(if s.2=true then 1 else 0)=q:=⟨_,rfl⟩;rw [hq] at h8 ⊢;clear h1 hq;simp only [rdR]
  repeat' split
  all_goals simp only [szV,szVs,szN,List.length_nil]
  all_goals omega
theorem rdR_rng:∀ (d:Nat) (s:SB),rngV (rdR d s).1
 | 0,s=>⟨by omega,trivial⟩
 | d+1,s=>by
  have hb:=byte_rng (rdByte s).2;have hi:=int_rng (rdByte s).2;simp only [rdR]
  repeat' split
  ·exact ⟨by omega,trivial⟩
  ·exact ⟨by omega,trivial⟩
  ·exact ⟨by omega,trivial⟩
  ·exact ⟨by omega,trivial⟩
  ·exact ⟨by omega,trivial⟩
  ·exact ⟨by omega,rngs_rdIs (rdR_rng d) _ _ _ _ _ trivial⟩
  ·exact ⟨by omega,trivial⟩
def rdAllR (s:SB):Val×SB:=if s.2=true then (.mk 0 0 [] [] [],s) else if (rdR 8 s).2.2=true∨¬ checkV (rdR 8 s).1=0 then (.mk 0 0 [] [] [],((rdR 8 s).2.1,true)) else rdR 8 s
theorem rdAllR_bad {s:SB} (h:s.2=true):rdAllR s=(.mk 0 0 [] [] [],s):=if_pos h
theorem rdAllR_no {s:SB} (h0:¬ s.2=true) (h:(rdR 8 s).2.2=true∨¬ checkV (rdR 8 s).1=0):rdAllR s=(.mk 0 0 [] [] [],((rdR 8 s).2.1,true)):=(if_neg h0).trans (if_pos h)
theorem rdAllR_ok {s:SB} (h0:¬ s.2=true) (h:¬ ((rdR 8 s).2.2=true∨¬ checkV (rdR 8 s).1=0)):rdAllR s=rdR 8 s:=(if_neg h0).trans (if_neg h)
theorem fn145:FnOkC Tryz.prog 145 81 [.cell 4 27] (bodyOf Tryz.f145):=⟨Tryz.f145,Tryz.func145,by kernel_rfl,by decide,by kernel_rfl,by kernel_rfl⟩
theorem s145z (s:SB):MSpec Tryz.prog 145 (fun k=>[.loc k 0,.d (.int .i64 0)]) (srcS s) (srcS (rdR 0 s).2) (.d (encV (rdR 0 s).1)):=by
 refine MSpec.ofC tabOk fn145 (fun _=>by simp) (fun _=>by first | exact srcS_lts _ _ | simp [SV.lts,SV.lt]) fun o nk k hkn hM=>?_;refine wr ?_;refine u_step (g_alloc th27 rfl fun o2 hb2 hk2=>?_);have hM_2:=(hk2 _ (by omega)).trans hM;refine u_nil ?_;refine wr ?_;refine uM ?_;refine u_step (g_mcall (s95 s) hM_2 rfl fun o4 hb4 hk4=>?_);have hb2_4:=(hk4 _ (by omega)).trans hb2;refine u_step (o_bu rfl th27 rfl rfl ?_);refine u_step (g_alloc th27 rfl fun o5 hb5 hk5=>?_);have hb2_5:=(hk5 _ (by omega)).trans hb2_4;have hb4_5:=(hk5 _ (by omega)).trans hb4;refine u_step0 (g_sta rfl rfl th27 rfl hb5 (by first | (simp;done) | (simp [D.leaves,D.width,valCells];done) | decide) fun o6 hb6 hk6=>?_);have hb2_6:=(hk6 _ (by omega)).trans hb2_5;have hb4_6:=(hk6 _ (by omega)).trans hb4_5;refine u_nil ?_;refine WP.seq fun K7 hK7=>?_;refine wr ?_;refine um ?_;refine ub ?_;refine u_nil ?_;refine wc (fun hc9=>?_) (fun hc9=>?_) <;> try simp only [Q0,Q1,Q2,Q3,Q4,Q5,Q6,Q7,Q8,ge_iff_le,gt_iff_lt] at hc9
 ·
  refine WP.reg tabOk rfl ?_;refine uM ?_;refine u_step (o_nc rfl hb4_6 ?_);refine uf th63 th4 hb4_6 ?_;refine u_step0 (g_st rfl rfl rfl th4 rfl hb4_6 (by first | (simp;done) | (simp [D.leaves,D.width];done) | decide) fun o10 hb10 hk10=>?_);have hb2_10:=(hk10 _ (by omega)).trans hb2_6;have hb6_10:=(hk10 _ (by omega)).trans hb6;refine u_nil ?_;refine hK7 _ ?_;refine WP.seq fun K11 hK11=>?_;refine wr ?_;refine uM ?_;refine u_step (o_nc rfl hb10 ?_);refine uf th63 th4 hb10 ?_;refine ul th4 hb10 ?_;refine u_nil ?_;refine wc (fun hc13=>?_) (fun hc13=>?_) <;> try simp only [Q0,Q1,Q2,Q3,Q4,Q5,Q6,Q7,Q8,ge_iff_le,gt_iff_lt] at hc13
  ·
   refine wr ?_;refine u_step (o_bu rfl th27 rfl rfl ?_);refine u_step0 (g_sta rfl rfl th27 rfl hb2_10 (by first | (simp;done) | (simp [D.leaves,D.width,valCells];done) | decide) fun o15 hb15 hk15=>?_);have hb6_15:=(hk15 _ (by omega)).trans hb6_10;have hb10_15:=(hk15 _ (by omega)).trans hb10;refine u_nil (WP.ret ?_);refine retCM_ok (resis_agg rfl th27 rfl hb15 rfl rfl rfl) ?_ (by omega) hb10_15 (fun t ht=>(hk15 t (by omega)).trans ((hk10 t (by omega)).trans ((hk6 t (by omega)).trans ((hk5 t (by omega)).trans ((hk4 t (by omega)).trans ((hk2 t (by omega))))))));exact leV0 _ _ _
  ·
   simp at hc13
 ·
  simp at hc9
theorem s145 (d:Nat) (hdb:d≤8) (ih:∀ s:SB,s.1.length≤4611686018427387904→MSpec Tryz.prog 145 (fun k=>[.loc k 0,.d (.int .i64 d)]) (srcS s) (srcS (rdR d s).2) (.d (encV (rdR d s).1))) (s:SB) (hx:s.1.length≤4611686018427387904):MSpec Tryz.prog 145 (fun k=>[.loc k 0,.d (.int .i64 ((d+1:Nat):Int))]) (srcS s) (srcS (rdR (d+1) s).2) (.d (encV (rdR (d+1) s).1)):=by
 have hb1:=byte_le s;have hcr:=cnt_rng (rdByte s).2 4096 (by decide);have hcl:=cnt_le (rdByte s).2 4096;have hde:IntKind.i64.wrap (((d+1:Nat):Int) - 1)=(d:Int):=by rw [wrap_i64 (by omega) (by omega)];omega
 refine MSpec.ofC tabOk fn145 (fun _=>by simp) (fun _=>by first | exact srcS_lts _ _ | simp [SV.lts,SV.lt]) fun o nk k hkn hM=>?_;refine wr ?_;refine u_step (g_alloc th27 rfl fun o2 hb2 hk2=>?_);have hM_2:=(hk2 _ (by omega)).trans hM;refine u_nil ?_;refine wr ?_;refine uM ?_;refine u_step (g_mcall (s95 s) hM_2 rfl fun o4 hb4 hk4=>?_);have hb2_4:=(hk4 _ (by omega)).trans hb2;refine u_step (o_bu rfl th27 rfl rfl ?_);refine u_step (g_alloc th27 rfl fun o5 hb5 hk5=>?_);have hb2_5:=(hk5 _ (by omega)).trans hb2_4;have hb4_5:=(hk5 _ (by omega)).trans hb4;refine u_step0 (g_sta rfl rfl th27 rfl hb5 (by first | (simp;done) | (simp [D.leaves,D.width,valCells];done) | decide) fun o6 hb6 hk6=>?_);have hb2_6:=(hk6 _ (by omega)).trans hb2_5;have hb4_6:=(hk6 _ (by omega)).trans hb4_5;refine u_nil ?_;refine WP.seq fun K7 hK7=>?_;refine wr ?_;refine um ?_;refine ub ?_;refine u_nil ?_;refine wc (fun hc9=>?_) (fun hc9=>?_) <;> try simp only [Q0,Q1,Q2,Q3,Q4,Q5,Q6,Q7,Q8,ge_iff_le,gt_iff_lt] at hc9
 ·
  have hq:=hc9;simp at hq;omega
 ·
  refine WP.skip ?_;refine hK7 _ ?_;refine WP.seq fun K10 hK10=>?_;refine wr ?_;refine uM ?_;refine u_step (o_nc rfl hb4_6 ?_);refine uf th63 th4 hb4_6 ?_;refine ul th4 hb4_6 ?_;refine u_nil ?_;refine wc (fun hc12=>?_) (fun hc12=>?_) <;> try simp only [Q0,Q1,Q2,Q3,Q4,Q5,Q6,Q7,Q8,ge_iff_le,gt_iff_lt] at hc12
  ·
   have g0:(rdByte s).2.2=true:=by simpa using hc12
   have hr:rdR (d+1) s=(.mk 0 0 [] [] [],(rdByte s).2):=by simp only [rdR];rw [if_pos g0]
   refine wr ?_;refine u_step (o_bu rfl th27 rfl rfl ?_);refine u_step0 (g_sta rfl rfl th27 rfl hb2_6 (by first | (simp;done) | (simp [D.leaves,D.width,valCells];done) | decide) fun o14 hb14 hk14=>?_);have hb4_14:=(hk14 _ (by omega)).trans hb4_6;have hb6_14:=(hk14 _ (by omega)).trans hb6;refine u_nil (WP.ret ?_);refine retCM_ok (resis_agg rfl th27 rfl hb14 rfl rfl rfl) ?_ (by omega) (by rw [hr];exact hb4_14) (fun t ht=>(hk14 t (by omega)).trans ((hk6 t (by omega)).trans ((hk5 t (by omega)).trans ((hk4 t (by omega)).trans ((hk2 t (by omega)))))));rw [hr];exact leV0 _ _ _
  ·
   have g0:¬ (rdByte s).2.2=true:=by simpa using hc12
   refine WP.skip ?_;refine hK10 _ ?_;refine WP.seq fun K15 hK15=>?_;refine wr ?_;refine uf th27 th3 hb6 ?_;refine ul th3 hb6 ?_;refine u_nil ?_;refine WP.block ?_;refine wr ?_;refine ub ?_;refine ua ?_;refine u_nil ?_;refine wc (fun hc18=>?_) (fun hc18=>?_) <;> try simp only [Q0,Q1,Q2,Q3,Q4,Q5,Q6,Q7,Q8,ge_iff_le,gt_iff_lt] at hc18
   ·
    have g1:(rdByte s).1=1:=by simpa using hc18
    have hr:rdR (d+1) s=(.mk (rdByte s).1 0 [] [] [],(rdByte s).2):=by simp only [rdR];rw [if_neg g0,if_pos g1]
    refine WP.skip (hK15 _ (wr (ug th27 hb6 ?_)));refine u_step0 (g_sta rfl rfl th27 rfl hb2_6 (by first | (simp;done) | (simp [D.leaves,D.width,valCells];done) | decide) fun o20 hb20 hk20=>?_);have hb4_20:=(hk20 _ (by omega)).trans hb4_6;have hb6_20:=(hk20 _ (by omega)).trans hb6;refine u_nil (WP.ret ?_);refine retCM_ok (resis_agg rfl th27 rfl hb20 rfl rfl rfl) ?_ (by omega) (by rw [hr];exact hb4_20) (fun t ht=>(hk20 t (by omega)).trans ((hk6 t (by omega)).trans ((hk5 t (by omega)).trans ((hk4 t (by omega)).trans ((hk2 t (by omega)))))));rw [hr];exact leV0 _ _ _
   ·
    have g1:¬ (rdByte s).1=1:=by simpa using hc18
    refine wr ?_;refine ub ?_;refine ua ?_;refine u_nil ?_;refine wc (fun hc22=>?_) (fun hc22=>?_) <;> try simp only [Q0,Q1,Q2,Q3,Q4,Q5,Q6,Q7,Q8,ge_iff_le,gt_iff_lt] at hc22
    ·
     have g2:(rdByte s).1=2:=by simpa using hc22
     have hr:rdR (d+1) s=(.mk (rdByte s).1 (rdByte (rdByte s).2).1 [] [] [],(rdByte (rdByte s).2).2):=by simp only [rdR];rw [if_neg g0,if_neg g1,if_pos g2]
     refine WP.reg tabOk rfl ?_;refine uM ?_;refine u_step (g_mcall (s95 _) hb4_6 rfl fun o23 hb23 hk23=>?_);have hb2_23:=(hk23 _ (by omega)).trans hb2_6;have hb6_23:=(hk23 _ (by omega)).trans hb6;refine uf th27 th3 hb6_23 ?_;refine u_step0 (g_st rfl rfl rfl th3 rfl hb6_23 (by first | (simp;done) | (simp [D.leaves,D.width];done) | decide) fun o24 hb24 hk24=>?_);have hb2_24:=(hk24 _ (by omega)).trans hb2_23;have hb23_24:=(hk24 _ (by omega)).trans hb23;refine u_nil (hK15 _ (wr (ug th27 hb24 ?_)));refine u_step0 (g_sta rfl rfl th27 rfl hb2_24 (by first | (simp;done) | (simp [D.leaves,D.width,valCells];done) | decide) fun o26 hb26 hk26=>?_);have hb23_26:=(hk26 _ (by omega)).trans hb23_24;have hb24_26:=(hk26 _ (by omega)).trans hb24;refine u_nil (WP.ret ?_);refine retCM_ok (resis_agg rfl th27 rfl hb26 rfl rfl rfl) ?_ (by omega) (by rw [hr];exact hb23_26) (fun t ht=>(hk26 t (by omega)).trans ((hk24 t (by omega)).trans ((hk23 t (by omega)).trans ((hk6 t (by omega)).trans ((hk5 t (by omega)).trans ((hk4 t (by omega)).trans ((hk2 t (by omega)))))))));rw [hr];exact leV0 _ _ _
    ·
     have g2:¬ (rdByte s).1=2:=by simpa using hc22
     refine wr ?_;refine ub ?_;refine ua ?_;refine u_nil ?_;refine wc (fun hc28=>?_) (fun hc28=>?_) <;> try simp only [Q0,Q1,Q2,Q3,Q4,Q5,Q6,Q7,Q8,ge_iff_le,gt_iff_lt] at hc28
     ·
      have g3:(rdByte s).1=3:=by simpa using hc28
      have hr:rdR (d+1) s=(.mk (rdByte s).1 (intS (rdByte s).2).1 [] [] [],(intS (rdByte s).2).2):=by simp only [rdR];rw [if_neg g0,if_neg g1,if_neg g2,if_pos g3]
      refine WP.reg tabOk rfl ?_;refine uM ?_;refine u_step (g_mcall (s171 _) hb4_6 rfl fun o29 hb29 hk29=>?_);have hb2_29:=(hk29 _ (by omega)).trans hb2_6;have hb6_29:=(hk29 _ (by omega)).trans hb6;refine uf th27 th3 hb6_29 ?_;refine u_step0 (g_st rfl rfl rfl th3 rfl hb6_29 (by first | (simp;done) | (simp [D.leaves,D.width];done) | decide) fun o30 hb30 hk30=>?_);have hb2_30:=(hk30 _ (by omega)).trans hb2_29;have hb29_30:=(hk30 _ (by omega)).trans hb29;refine u_nil (hK15 _ (wr (ug th27 hb30 ?_)));refine u_step0 (g_sta rfl rfl th27 rfl hb2_30 (by first | (simp;done) | (simp [D.leaves,D.width,valCells];done) | decide) fun o32 hb32 hk32=>?_);have hb29_32:=(hk32 _ (by omega)).trans hb29_30;have hb30_32:=(hk32 _ (by omega)).trans hb30;refine u_nil (WP.ret ?_);refine retCM_ok (resis_agg rfl th27 rfl hb32 rfl rfl rfl) ?_ (by omega) (by rw [hr];exact hb29_32) (fun t ht=>(hk32 t (by omega)).trans ((hk30 t (by omega)).trans ((hk29 t (by omega)).trans ((hk6 t (by omega)).trans ((hk5 t (by omega)).trans ((hk4 t (by omega)).trans ((hk2 t (by omega)))))))));rw [hr];exact leV0 _ _ _
     ·
      have g3:¬ (rdByte s).1=3:=by simpa using hc28
      refine WP.seqJ ⟨al [(0,.loc k 0),(1,.d (.int .i64 ((d+1:Nat):Int))),(4,.loc nk 0),(5,.loc (nk+1) 0),(22,.d (.int .i64 (rdByte s).1)),(38,.d (.bool (decide ((rdByte s).1=4∨(rdByte s).1=5))))],o6,((nk+1)+1)⟩ ?_ ?_
      ·
       refine wr ?_;refine ub ?_;refine ua ?_;refine u_nil ?_;refine wc (fun hc34=>?_) (fun hc34=>?_) <;> try simp only [Q0,Q1,Q2,Q3,Q4,Q5,Q6,Q7,Q8,ge_iff_le,gt_iff_lt] at hc34
       ·
        try (have g4:(rdByte s).1=4∨(rdByte s).1=5:=hc34)
        try (have hr:rdR (d+1) s=(.mk (rdByte s).1 0 (txtS (rdByte s).2 4096).1 [] [],(txtS (rdByte s).2 4096).2):=by simp only [rdR];rw [if_neg g0,if_neg g1,if_neg g2,if_neg g3,if_pos g4])
        refine WP.skip ?_;refine Le.al ?_;simp only [List.forall_mem_cons];have hl2:=hc34;refine ⟨rfl,rfl,rfl,rfl,rfl,?_,by simp⟩;refine congrArg (fun z=>SV.d (.bool z)) ?_;rw [Bool.eq_iff_iff,decide_eq_true_iff];simp at hl2 ⊢;omega
       ·
        try (have g4:¬ ((rdByte s).1=4∨(rdByte s).1=5):=hc34)
        refine WP.reg tabOk rfl ?_;refine ub (ua (u_nil ?_));refine Le.al ?_;simp only [List.forall_mem_cons];have hl2:=hc34;refine ⟨rfl,rfl,rfl,rfl,rfl,?_,by simp⟩;refine congrArg (fun z=>SV.d (.bool z)) ?_;rw [Bool.eq_iff_iff,decide_eq_true_iff];simp at hl2 ⊢;omega
      ·
       refine wc (fun hc35=>?_) (fun hc35=>?_) <;> try simp only [Q0,Q1,Q2,Q3,Q4,Q5,Q6,Q7,Q8,ge_iff_le,gt_iff_lt] at hc35
       ·
        try (have g4:(rdByte s).1=4∨(rdByte s).1=5:=hc35)
        try (have hr:rdR (d+1) s=(.mk (rdByte s).1 0 (txtS (rdByte s).2 4096).1 [] [],(txtS (rdByte s).2 4096).2):=by simp only [rdR];rw [if_neg g0,if_neg g1,if_neg g2,if_neg g3,if_pos g4])
        refine WP.reg tabOk rfl ?_;refine uM ?_;refine u_step (g_mcall (s96 _ _ (by omega)) hb4_6 rfl fun o36 hb36 hk36=>?_);have hb2_36:=(hk36 _ (by omega)).trans hb2_6;have hb6_36:=(hk36 _ (by omega)).trans hb6;refine uf th27 th9 hb6_36 ?_;refine u_step0 (g_st rfl rfl rfl th9 rfl hb6_36 (by first | (simp;done) | (simp [D.leaves,D.width];done) | decide) fun o37 hb37 hk37=>?_);have hb2_37:=(hk37 _ (by omega)).trans hb2_36;have hb36_37:=(hk37 _ (by omega)).trans hb36;refine u_nil (hK15 _ (wr (ug th27 hb37 ?_)));refine u_step0 (g_sta rfl rfl th27 rfl hb2_37 (by first | (simp;done) | (simp [D.leaves,D.width,valCells];done) | decide) fun o39 hb39 hk39=>?_);have hb36_39:=(hk39 _ (by omega)).trans hb36_37;have hb37_39:=(hk39 _ (by omega)).trans hb37;refine u_nil (WP.ret ?_);refine retCM_ok (resis_agg rfl th27 rfl hb39 rfl rfl rfl) ?_ (by omega) (by rw [hr];exact hb36_39) (fun t ht=>(hk39 t (by omega)).trans ((hk37 t (by omega)).trans ((hk36 t (by omega)).trans ((hk6 t (by omega)).trans ((hk5 t (by omega)).trans ((hk4 t (by omega)).trans ((hk2 t (by omega)))))))));rw [hr];exact leV0 _ _ _
       ·
        try (have g4:¬ ((rdByte s).1=4∨(rdByte s).1=5):=hc35)
        refine WP.seqJ ⟨al [(0,.loc k 0),(1,.d (.int .i64 ((d+1:Nat):Int))),(4,.loc nk 0),(5,.loc (nk+1) 0),(22,.d (.int .i64 (rdByte s).1)),(44,.d (.bool (decide ((rdByte s).1=6∨(rdByte s).1=7))))],o6,((nk+1)+1)⟩ ?_ ?_
        ·
         refine wr ?_;refine ub ?_;refine ua ?_;refine u_nil ?_;refine wc (fun hc41=>?_) (fun hc41=>?_) <;> try simp only [Q0,Q1,Q2,Q3,Q4,Q5,Q6,Q7,Q8,ge_iff_le,gt_iff_lt] at hc41
         ·
          try (have g6:(rdByte s).1=6∨(rdByte s).1=7:=hc41)
          try (have hr:rdR (d+1) s=(.mk (rdByte s).1 0 [] (rdIs (rdR d) (decide ((rdByte s).1=7)) (cntS (rdByte s).2 4096).1.toNat (cntS (rdByte s).2 4096).2 [] []).1 (rdIs (rdR d) (decide ((rdByte s).1=7)) (cntS (rdByte s).2 4096).1.toNat (cntS (rdByte s).2 4096).2 [] []).2.1,(rdIs (rdR d) (decide ((rdByte s).1=7)) (cntS (rdByte s).2 4096).1.toNat (cntS (rdByte s).2 4096).2 [] []).2.2):=by simp only [rdR];rw [if_neg g0,if_neg g1,if_neg g2,if_neg g3,if_neg g4,if_pos g6])
          refine WP.skip ?_;refine Le.al ?_;simp only [List.forall_mem_cons];have hl2:=hc41;refine ⟨rfl,rfl,rfl,rfl,rfl,?_,by simp⟩;refine congrArg (fun z=>SV.d (.bool z)) ?_;rw [Bool.eq_iff_iff,decide_eq_true_iff];simp at hl2 ⊢;omega
         ·
          try (have g6:¬ ((rdByte s).1=6∨(rdByte s).1=7):=hc41)
          try (have hr:rdR (d+1) s=(.mk (rdByte s).1 0 [] [] [],((rdByte s).2.1,true)):=by simp only [rdR];rw [if_neg g0,if_neg g1,if_neg g2,if_neg g3,if_neg g4,if_neg g6])
          refine WP.reg tabOk rfl ?_;refine ub (ua (u_nil ?_));refine Le.al ?_;simp only [List.forall_mem_cons];have hl2:=hc41;refine ⟨rfl,rfl,rfl,rfl,rfl,?_,by simp⟩;refine congrArg (fun z=>SV.d (.bool z)) ?_;rw [Bool.eq_iff_iff,decide_eq_true_iff];simp at hl2 ⊢;omega
        ·
         refine wc (fun hc42=>?_) (fun hc42=>?_) <;> try simp only [Q0,Q1,Q2,Q3,Q4,Q5,Q6,Q7,Q8,ge_iff_le,gt_iff_lt] at hc42
         ·
          try (have g6:(rdByte s).1=6∨(rdByte s).1=7:=hc42)
          try (have hr:rdR (d+1) s=(.mk (rdByte s).1 0 [] (rdIs (rdR d) (decide ((rdByte s).1=7)) (cntS (rdByte s).2 4096).1.toNat (cntS (rdByte s).2 4096).2 [] []).1 (rdIs (rdR d) (decide ((rdByte s).1=7)) (cntS (rdByte s).2 4096).1.toNat (cntS (rdByte s).2 4096).2 [] []).2.1,(rdIs (rdR d) (decide ((rdByte s).1=7)) (cntS (rdByte s).2 4096).1.toNat (cntS (rdByte s).2 4096).2 [] []).2.2):=by simp only [rdR];rw [if_neg g0,if_neg g1,if_neg g2,if_neg g3,if_neg g4,if_pos g6])
          refine wr (uM ?_);refine u_step (g_mcall (s94 _ 4096) hb4_6 rfl fun o44 hb44 hk44=>?_);have hb2_44:=(hk44 _ (by omega)).trans hb2_6;have hb6_44:=(hk44 _ (by omega)).trans hb6;refine ua (u_nil (wr (ua (u_nil (WP.block ?_)))));refine WP.loopL (ι:=Nat×SB×List Val×List Str×SV×Option Nat×SV×Option Nat×Nat×Nat×(Nat→Option AO)×Nat) (fun ⟨i,s1,xs,ns,c,q,c2,q2,a,b,o2,nk2⟩=>⟨al [(0,.loc k 0),(1,.d (.int .i64 ((d+1:Nat):Int))),(4,.loc nk 0),(5,.loc (nk+1) 0),(6,.d (.int .i64 (cntS (rdByte s).2 4096).1)),(7,.d (.int .i64 i))],o2,nk2⟩) (fun ⟨i,s1,xs,ns,c,q,c2,q2,a,b,o2,nk2⟩=>i≤(cntS (rdByte s).2 4096).1.toNat∧nk+2≤nk2∧s1.1.length≤4611686018427387904∧xs.length≤i∧ns.length≤i∧rdIs (rdR d) (decide ((rdByte s).1=7)) ((cntS (rdByte s).2 4096).1.toNat - i) s1 xs ns=rdIs (rdR d) (decide ((rdByte s).1=7)) (cntS (rdByte s).2 4096).1.toNat (cntS (rdByte s).2 4096).2 [] []∧o2 k=some (.box (srcS s1))∧o2 (nk+1)=some (.box [.d (.int .i64 (rdByte s).1),.d (.int .i64 0),.d (.str []),c,c2])∧o2 nk=some (.box [.d (.int .i64 0),.d (.int .i64 0),.d (.str []),.d .nil,.d .nil])∧dstOf o2 27 5 c=some (q,encVs xs)∧(∀ t,q=some t→nk+2≤t∧t < nk2∧t=a)∧dstOf o2 9 1 c2=some (q2,ns.map .str)∧(∀ t,q2=some t→nk+2≤t∧t < nk2∧t=b)∧a < nk2∧b < nk2∧a≠b∧∀ t,t < nk∧t≠k→o2 t=o t) (fun ⟨i,s1,xs,ns,c,q,c2,q2,a,b,o2,nk2⟩=>(cntS (rdByte s).2 4096).1.toNat - i) (fun ⟨i,s1,xs,ns,c,q,c2,q2,a,b,o2,nk2⟩ hA=>?_) ⟨0,(cntS (rdByte s).2 4096).2,[],[],.d .nil,none,.d .nil,none,0,1,o44,((nk+1)+1)⟩ ?_ ?_
          ·
           obtain ⟨hle,hnk,hsl,hxl,hnl,heq,hsk,hob,hzb,hd,hq,hd2,hq2,hal,hbl,hab,hfr⟩:=hA;refine WP.seq fun K46 hK46=>?_;refine wr (um (um (ub (um ?_))));apply gT
           ·rfl
           ·intro hg;refine o_moveV (v:=.loc _ _) rfl ⟨rfl,rfl,rfl⟩
           apply gT
           ·rfl
           ·intro hg;try simp only [hg,ct,Bt]
            refine o_nc rfl hsk ⟨rfl,rfl,rfl⟩
           apply gT
           ·rfl
           ·intro hg;try simp only [hg,ct,Bt]
            exact pf th63 th4 hsk
           apply gT
           ·rfl
           ·intro hg;try simp only [hg,ct,Bt]
            exact pl th4 hsk
           apply gT
           ·rfl
           ·intro hg;try simp only [hg,ct,Bt]
            exact pN
           refine uA ?_;refine u_nil ?_;refine wc (fun hc48=>?_) (fun hc48=>?_) <;> try simp only [Q0,Q1,Q2,Q3,Q4,Q5,Q6,Q7,Q8,ge_iff_le,gt_iff_lt] at hc48
           ·
            have hgo:=hc48;simp at hgo;have hlt:i < (cntS (rdByte s).2 4096).1.toNat:=by omega
            have hbad:¬ s1.2=true:=by rw [hgo.2];decide
            refine WP.skip ?_;refine hK46 _ ?_;refine WP.seq fun K49 hK49=>?_;refine WP.block ?_;refine WP.seq fun K50 hK50=>?_;refine wr ?_;refine uf th27 th3 hob ?_;refine ul th3 hob ?_;refine ub ?_;refine u_nil ?_;refine wc (fun hc52=>?_) (fun hc52=>?_) <;> try simp only [Q0,Q1,Q2,Q3,Q4,Q5,Q6,Q7,Q8,ge_iff_le,gt_iff_lt] at hc52
            ·
             have h7:decide ((rdByte s).1=7)=true:=by simpa using hc52
             refine WP.dr3 [.q 0 1,.q 0 1,.q 0 0,.w 0,.q 1 1,.w 1,.q 2 2,.w 2] [3,5,7] nk2 (nk2+1) (nk2+1) tabOk (by kernel_rfl) rfl (by kernel_rfl) (by kernel_rfl) ?_;apply Exists.intro;apply Exists.intro;apply Exists.intro;refine e_step2 rfl rfl (o_fa_loc rfl th27 rfl rfl th22 (by decide) hob ⟨rfl,rfl,rfl⟩) ?_ ?_;rotate_left;refine e_step2 rfl rfl (o_ld_locV rfl th22 rfl hob rfl ⟨rfl,rfl,rfl⟩) ?_ ?_;rotate_left;refine e_step rfl (o_moveV (v:=.loc _ _) rfl ⟨rfl,rfl,rfl⟩) ?_;refine e_w rfl rfl (w_mcall (s96 s1 32 (by omega)) hsk rfl ⟨rfl,rfl,rfl⟩) ?_;refine e_step rfl (o_bs rfl th22 rfl th9 rfl rfl (by decide) rfl (by decide) (by decide) ⟨rfl,rfl,rfl⟩) ?_;refine e_w rfl rfl (w_apD rfl th22 rfl th9 rfl rfl (by decide) rfl (dst_keep hd2 fun t e=>(by have:=hq2 t e;exact upd_ne _ _ (by omega))) (by simp only [List.length_map,List.length_cons,List.length_nil];omega) (by simp only [List.length_map,List.length_cons,List.length_nil];omega) ⟨rfl,rfl,rfl⟩) ?_;refine e_step rfl (o_fa_loc rfl th27 rfl rfl th22 (by decide) (((upd_ne _ _ (by omega)).trans (killo_ne (fun e=>by have:=hq2 _ e;omega))).trans ((upd_ne _ _ (by omega)).trans hob)) ⟨rfl,rfl,rfl⟩) ?_;refine e_w0 rfl rfl (w_stV rfl rfl (upd_same _ _ _) th22 rfl (((upd_ne _ _ (by omega)).trans (killo_ne (fun e=>by have:=hq2 _ e;omega))).trans ((upd_ne _ _ (by omega)).trans hob)) (by simp) ⟨rfl,rfl,rfl⟩) ?_;refine e_nil rfl fun o56 ho56=>?_;have hbZ_56:=(ho56 _).trans ((upd_ne _ _ (by omega)).trans (((upd_ne _ _ (by omega)).trans (killo_ne (fun e=>by have:=hq2 _ e;omega))).trans ((upd_ne _ _ (by omega)).trans hzb)));have hdC_56:=dst_keep (o':=o56) hd fun t e=>(by have:=hq t e;exact (ho56 t).trans ((upd_ne _ _ (by omega)).trans (((upd_ne _ _ (by omega)).trans (killo_ne (fun e=>by have:=hq2 _ e;omega))).trans (upd_ne _ _ (by omega)))));have hbM_56:=(ho56 _).trans ((upd_ne _ _ (by omega)).trans (((upd_ne _ _ (by omega)).trans (killo_ne (fun e=>by have:=hq2 _ e;omega))).trans (upd_same _ _ _)));have hbr54_56:=(ho56 _).trans ((upd_ne _ _ (by omega)).trans (upd_same _ _ _));have hbB_56:=(ho56 _).trans (upd_same _ _ _);have hk56:∀ t,t < nk∧t≠k→o56 t=o2 t:=fun t ht=>(ho56 t).trans ((upd_ne _ _ (by omega)).trans (((upd_ne _ _ (by omega)).trans (killo_ne (fun e=>by have:=hq2 _ e;omega))).trans (upd_ne _ _ (by omega))))
             ·
              refine hK50 _ ?_;refine WP.dr3 [.q 0 1,.q 0 1,.q 0 0,.q 0 0,.q 0 0,.w 0,.q 1 1,.w 1,.q 2 2,.w 2] [5,7,9] (nk2+1) ((nk2+1)+1) ((nk2+1)+1) tabOk (by kernel_rfl) rfl (by kernel_rfl) (by kernel_rfl) ?_;apply Exists.intro;apply Exists.intro;apply Exists.intro;refine e_step2 rfl rfl (o_fa_loc rfl th27 rfl rfl th25 (by decide) hbB_56 ⟨rfl,rfl,rfl⟩) ?_ ?_;rotate_left;refine e_step2 rfl rfl (o_ld_locV rfl th25 rfl hbB_56 rfl ⟨rfl,rfl,rfl⟩) ?_ ?_;rotate_left;refine e_step rfl (o_moveV (v:=.loc _ _) rfl ⟨rfl,rfl,rfl⟩) ?_;refine e_step rfl (o_move rfl ⟨rfl,rfl,rfl⟩) ?_;refine e_step rfl (o_bin_int rfl rfl (by decide) (show intBin .sub .i64 ((d+1:Nat):Int) 1=some (.int .i64 (d:Int)) from congrArg (fun z=>some (D.int .i64 z)) hde) ⟨rfl,rfl,rfl⟩) ?_;refine e_w rfl rfl (w_mcall (ih _ (by have:=txt_le s1 32;omega)) hbM_56 rfl ⟨rfl,rfl,rfl⟩) ?_
              first | refine e_step rfl (o_bs rfl th25 rfl th27 rfl rfl (by decide) rfl (by decide) (by decide) ⟨rfl,rfl,rfl⟩) ?_ | refine e_step rfl (o_bs1 rfl (by simp only [encV_width]) th25 rfl th27 rfl rfl (by decide) (by decide) ⟨rfl,rfl,rfl⟩) ?_
              refine e_w rfl rfl (w_apD rfl th25 rfl th27 rfl rfl (by decide) rfl (dst_keep hdC_56 fun t e=>(by have:=hq t e;exact upd_ne _ _ (by omega))) (by simp only [encVs_length,List.length_cons,List.length_nil];omega) (by simp only [encVs_length,List.length_cons,List.length_nil];omega) ⟨rfl,rfl,rfl⟩) ?_;refine e_step rfl (o_fa_loc rfl th27 rfl rfl th25 (by decide) (((upd_ne _ _ (by omega)).trans (killo_ne (fun e=>by have:=hq _ e;omega))).trans ((upd_ne _ _ (by omega)).trans hbB_56)) ⟨rfl,rfl,rfl⟩) ?_;refine e_w0 rfl rfl (w_stV rfl rfl (upd_same _ _ _) th25 rfl (((upd_ne _ _ (by omega)).trans (killo_ne (fun e=>by have:=hq _ e;omega))).trans ((upd_ne _ _ (by omega)).trans hbB_56)) (by simp) ⟨rfl,rfl,rfl⟩) ?_;refine e_nil rfl fun o60 ho60=>?_;have hbZ_60:=(ho60 _).trans ((upd_ne _ _ (by omega)).trans (((upd_ne _ _ (by omega)).trans (killo_ne (fun e=>by have:=hq _ e;omega))).trans ((upd_ne _ _ (by omega)).trans hbZ_56)));have hbr54_60:=(ho60 _).trans ((upd_ne _ _ (by omega)).trans (((upd_ne _ _ (by omega)).trans (killo_ne (fun e=>by have:=hq _ e;omega))).trans ((upd_ne _ _ (by omega)).trans hbr54_56)));have hbM_60:=(ho60 _).trans ((upd_ne _ _ (by omega)).trans (((upd_ne _ _ (by omega)).trans (killo_ne (fun e=>by have:=hq _ e;omega))).trans (upd_same _ _ _)));have hbr58_60:=(ho60 _).trans ((upd_ne _ _ (by omega)).trans (upd_same _ _ _));have hbB_60:=(ho60 _).trans (upd_same _ _ _);have hk60:∀ t,t < nk∧t≠k→o60 t=o56 t:=fun t ht=>(ho60 t).trans ((upd_ne _ _ (by omega)).trans (((upd_ne _ _ (by omega)).trans (killo_ne (fun e=>by have:=hq _ e;omega))).trans (upd_ne _ _ (by omega))))
              ·
               refine hK49 _ (WP.reg tabOk rfl ?_);refine um (ub (ua (u_nil ?_)));refine ⟨⟨i+1,(rdR d (txtS s1 32).2).2,xs++[(rdR d (txtS s1 32).2).1],ns++[(txtS s1 32).1],.row _,some _,.row _,some _,_,_,o60,((nk2+1)+1)⟩,⟨by omega,by omega,by have:=rdR_le d (txtS s1 32).2;have:=txt_le s1 32;omega,by simp;omega,by simp;omega,?_,hbM_60,hbB_60,hbZ_60,(encVs_app xs _).symm ▸ dst_row hbr58_60,fun t e=>by injection e with e;exact ⟨by omega,by omega,e.symm⟩,(List.map_append (f:=D.str) (l₁:=ns) (l₂:=[(txtS s1 32).1])).symm ▸ dst_row hbr54_60,fun t e=>by injection e with e;exact ⟨by omega,by omega,e.symm⟩,by omega,by omega,by omega,(fun t ht=>(hk60 t (by omega)).trans ((hk56 t (by omega)).trans ((hfr t (by omega)))))⟩,by simp only;omega,Le.al ?_⟩
               ·rw [← heq,show (cntS (rdByte s).2 4096).1.toNat - i=((cntS (rdByte s).2 4096).1.toNat - (i+1))+1 by omega];exact (rdIs_doc h7 hbad).symm
               ·simp only [List.forall_mem_cons];exact ⟨rfl,rfl,rfl,rfl,rfl,cnt (by omega),by simp⟩
              exact o_fa_loc rfl th27 rfl rfl th25 (by decide) ((upd_ne _ _ (by omega)).trans hbB_56) ⟨rfl,rfl,rfl⟩;exact o_ld_locV rfl th25 rfl ((upd_ne _ _ (by omega)).trans hbB_56) rfl ⟨rfl,rfl,rfl⟩
             exact o_fa_loc rfl th27 rfl rfl th22 (by decide) ((upd_ne _ _ (by omega)).trans hob) ⟨rfl,rfl,rfl⟩;exact o_ld_locV rfl th22 rfl ((upd_ne _ _ (by omega)).trans hob) rfl ⟨rfl,rfl,rfl⟩
            ·
             have h7:¬ decide ((rdByte s).1=7)=true:=by simpa using hc52
             refine WP.skip (hK50 _ ?_);refine WP.dr3 [.q 0 1,.q 0 1,.q 0 0,.q 0 0,.q 0 0,.w 0,.q 1 1,.w 1,.q 2 2,.w 2] [5,7,9] nk2 (nk2+1) (nk2+1) tabOk (by kernel_rfl) rfl (by kernel_rfl) (by kernel_rfl) ?_;apply Exists.intro;apply Exists.intro;apply Exists.intro;refine e_step2 rfl rfl (o_fa_loc rfl th27 rfl rfl th25 (by decide) hob ⟨rfl,rfl,rfl⟩) ?_ ?_;rotate_left;refine e_step2 rfl rfl (o_ld_locV rfl th25 rfl hob rfl ⟨rfl,rfl,rfl⟩) ?_ ?_;rotate_left;refine e_step rfl (o_moveV (v:=.loc _ _) rfl ⟨rfl,rfl,rfl⟩) ?_;refine e_step rfl (o_move rfl ⟨rfl,rfl,rfl⟩) ?_;refine e_step rfl (o_bin_int rfl rfl (by decide) (show intBin .sub .i64 ((d+1:Nat):Int) 1=some (.int .i64 (d:Int)) from congrArg (fun z=>some (D.int .i64 z)) hde) ⟨rfl,rfl,rfl⟩) ?_;refine e_w rfl rfl (w_mcall (ih _ (by have:=txt_le s1 32;omega)) hsk rfl ⟨rfl,rfl,rfl⟩) ?_
             first | refine e_step rfl (o_bs rfl th25 rfl th27 rfl rfl (by decide) rfl (by decide) (by decide) ⟨rfl,rfl,rfl⟩) ?_ | refine e_step rfl (o_bs1 rfl (by simp only [encV_width]) th25 rfl th27 rfl rfl (by decide) (by decide) ⟨rfl,rfl,rfl⟩) ?_
             refine e_w rfl rfl (w_apD rfl th25 rfl th27 rfl rfl (by decide) rfl (dst_keep hd fun t e=>(by have:=hq t e;exact upd_ne _ _ (by omega))) (by simp only [encVs_length,List.length_cons,List.length_nil];omega) (by simp only [encVs_length,List.length_cons,List.length_nil];omega) ⟨rfl,rfl,rfl⟩) ?_;refine e_step rfl (o_fa_loc rfl th27 rfl rfl th25 (by decide) (((upd_ne _ _ (by omega)).trans (killo_ne (fun e=>by have:=hq _ e;omega))).trans ((upd_ne _ _ (by omega)).trans hob)) ⟨rfl,rfl,rfl⟩) ?_;refine e_w0 rfl rfl (w_stV rfl rfl (upd_same _ _ _) th25 rfl (((upd_ne _ _ (by omega)).trans (killo_ne (fun e=>by have:=hq _ e;omega))).trans ((upd_ne _ _ (by omega)).trans hob)) (by simp) ⟨rfl,rfl,rfl⟩) ?_;refine e_nil rfl fun o64 ho64=>?_;have hbZ_64:=(ho64 _).trans ((upd_ne _ _ (by omega)).trans (((upd_ne _ _ (by omega)).trans (killo_ne (fun e=>by have:=hq _ e;omega))).trans ((upd_ne _ _ (by omega)).trans hzb)));have hdE_64:=dst_keep (o':=o64) hd2 fun t e=>(by have:=hq2 t e;exact (ho64 t).trans ((upd_ne _ _ (by omega)).trans (((upd_ne _ _ (by omega)).trans (killo_ne (fun e=>by have:=hq _ e;omega))).trans (upd_ne _ _ (by omega)))));have hbM_64:=(ho64 _).trans ((upd_ne _ _ (by omega)).trans (((upd_ne _ _ (by omega)).trans (killo_ne (fun e=>by have:=hq _ e;omega))).trans (upd_same _ _ _)));have hbr62_64:=(ho64 _).trans ((upd_ne _ _ (by omega)).trans (upd_same _ _ _));have hbB_64:=(ho64 _).trans (upd_same _ _ _);have hk64:∀ t,t < nk∧t≠k→o64 t=o2 t:=fun t ht=>(ho64 t).trans ((upd_ne _ _ (by omega)).trans (((upd_ne _ _ (by omega)).trans (killo_ne (fun e=>by have:=hq _ e;omega))).trans (upd_ne _ _ (by omega))))
             ·
              refine hK49 _ (WP.reg tabOk rfl ?_);refine um (ub (ua (u_nil ?_)));refine ⟨⟨i+1,(rdR d s1).2,xs++[(rdR d s1).1],ns,.row _,some _,c2,q2,_,b,o64,(nk2+1)⟩,⟨by omega,by omega,by have:=rdR_le d s1;omega,by simp;omega,by omega,?_,hbM_64,hbB_64,hbZ_64,(encVs_app xs _).symm ▸ dst_row hbr62_64,fun t e=>by injection e with e;exact ⟨by omega,by omega,e.symm⟩,hdE_64,fun t e=>by have:=hq2 t e;omega,by omega,by omega,by omega,(fun t ht=>(hk64 t (by omega)).trans ((hfr t (by omega))))⟩,by simp only;omega,Le.al ?_⟩
              ·rw [← heq,show (cntS (rdByte s).2 4096).1.toNat - i=((cntS (rdByte s).2 4096).1.toNat - (i+1))+1 by omega];exact (rdIs_arr h7 hbad).symm
              ·simp only [List.forall_mem_cons];exact ⟨rfl,rfl,rfl,rfl,rfl,cnt (by omega),by simp⟩
             exact o_fa_loc rfl th27 rfl rfl th25 (by decide) ((upd_ne _ _ (by omega)).trans hob) ⟨rfl,rfl,rfl⟩;exact o_ld_locV rfl th25 rfl ((upd_ne _ _ (by omega)).trans hob) rfl ⟨rfl,rfl,rfl⟩
           ·
            have hfin:rdIs (rdR d) (decide ((rdByte s).1=7)) (cntS (rdByte s).2 4096).1.toNat (cntS (rdByte s).2 4096).2 [] []=(xs,ns,s1):=by
             rw [← heq];by_cases hz:s1.2=true
             ·exact rdIs_bad hz
             ·have hge:(cntS (rdByte s).2 4096).1.toNat - i=0:=by (have hq:=hc48;simp [hz] at hq;omega)
              rw [hge];rfl
            rw [hfin] at hr;refine WP.exit ?_;refine hK15 _ ?_;refine WP.frzC2 (pre:=[.d (.int .i64 (rdByte s).1),.d (.int .i64 0),.d (.str [])]) (post:=[]) [(4,.loc nk 0),(5,.loc (nk+1) 0)] nk hob hd hd2 (fun t h1 h2=>by have:=hq t h1;have:=hq2 t h2;omega) (by omega) (fun t d=>⟨rfl,rfl⟩) (fun t d=>by simp only [List.forall_mem_cons];exact ⟨⟨rfl,rfl⟩,⟨rfl,rfl⟩,by simp⟩) (by simp only [List.forall_mem_cons];exact ⟨rfl,rfl,by simp⟩) (by simp only [List.forall_mem_cons];exact ⟨rfl,rfl,by simp⟩) fun o9 hB9 hk9 hm9=>?_;have hZ9:=hm9 _ _ (by omega) hzb fun t d=>rfl;have hF9:∀ t,t < nk→o9 t=o2 t:=fun t ht=>hk9 t ht (fun h=>by have:=hq t h;omega) (fun h=>by have:=hq2 t h;omega);have hM9:=(hF9 _ hkn).trans hsk;refine wr (ug th27 hB9 ?_);refine u_step0 (g_sta rfl rfl th27 rfl hZ9 (by first | (simp;done) | (simp [D.leaves,D.width,valCells];done) | decide) fun o66 hb66 hk66=>?_);have hM9_66:=(hk66 _ (by omega)).trans hM9;have hB9_66:=(hk66 _ (by omega)).trans hB9;refine u_nil (WP.ret ?_);refine retCM_ok (resis_agg rfl th27 rfl hb66 rfl rfl rfl) ?_ (by omega) (by rw [hr];exact hM9_66) (fun t ht=>(hk66 t (by omega)).trans ((hF9 t (by omega)).trans ((hfr t (by omega)))));rw [hr];exact D.le_refl _
          ·
           refine ⟨by omega,by omega,by omega,by simp,by simp,rfl,hb44,hb6_44,hb2_44,rfl,by simp,rfl,by simp,by omega,by omega,by decide,(fun t ht=>(hk44 t (by omega)).trans ((hk6 t (by omega)).trans ((hk5 t (by omega)).trans ((hk4 t (by omega)).trans ((hk2 t (by omega)))))))⟩
          ·
           refine Le.al ?_;simp only [List.forall_mem_cons];exact ⟨rfl,rfl,rfl,rfl,rfl,rfl,by simp⟩
         ·
          try (have g6:¬ ((rdByte s).1=6∨(rdByte s).1=7):=hc42)
          try (have hr:rdR (d+1) s=(.mk (rdByte s).1 0 [] [] [],((rdByte s).2.1,true)):=by simp only [rdR];rw [if_neg g0,if_neg g1,if_neg g2,if_neg g3,if_neg g4,if_neg g6])
          refine WP.reg tabOk rfl ?_;refine uM ?_;refine u_step (o_nc rfl hb4_6 ?_);refine uf th63 th4 hb4_6 ?_;refine u_step0 (g_st rfl rfl rfl th4 rfl hb4_6 (by first | (simp;done) | (simp [D.leaves,D.width];done) | decide) fun o67 hb67 hk67=>?_);have hb2_67:=(hk67 _ (by omega)).trans hb2_6;have hb6_67:=(hk67 _ (by omega)).trans hb6;refine u_nil (hK15 _ (wr (ug th27 hb6_67 ?_)));refine u_step0 (g_sta rfl rfl th27 rfl hb2_67 (by first | (simp;done) | (simp [D.leaves,D.width,valCells];done) | decide) fun o69 hb69 hk69=>?_);have hb6_69:=(hk69 _ (by omega)).trans hb6_67;have hb67_69:=(hk69 _ (by omega)).trans hb67;refine u_nil (WP.ret ?_);refine retCM_ok (resis_agg rfl th27 rfl hb69 rfl rfl rfl) ?_ (by omega) (by rw [hr];exact hb67_69) (fun t ht=>(hk69 t (by omega)).trans ((hk67 t (by omega)).trans ((hk6 t (by omega)).trans ((hk5 t (by omega)).trans ((hk4 t (by omega)).trans ((hk2 t (by omega))))))));rw [hr];exact leV0 _ _ _
theorem rd145:∀ (d:Nat),d≤8→∀ s:SB,s.1.length≤4611686018427387904→MSpec Tryz.prog 145 (fun k=>[.loc k 0,.d (.int .i64 d)]) (srcS s) (srcS (rdR d s).2) (.d (encV (rdR d s).1))
 | 0,hd,s,hx=>s145z s
 | d+1,hd,s,hx=>s145 d (by omega) (rd145 d (by omega)) s hx
theorem fn97:FnOkC Tryz.prog 97 25 [.cell 2 27] (bodyOf Tryz.f97):=⟨Tryz.f97,Tryz.func97,by kernel_rfl,by decide,by kernel_rfl,by kernel_rfl⟩
theorem s97 (s:SB) (hx:s.1.length≤1048576):MSpec Tryz.prog 97 (fun k=>[.loc k 0]) (srcS s) (srcS (rdAllR s).2) (.d (encV (rdAllR s).1)):=by
 have hsz:szV (rdR 8 s).1≤1099511627776:=by
  have h1:=rdR_sz 8 s (by omega);have h2:pot s≤s.1.length+2:=by (unfold pot;split <;> omega)
  split at h1 <;> omega
 refine MSpec.ofC tabOk fn97 (fun _=>by simp) (fun _=>by first | exact srcS_lts _ _ | simp [SV.lts,SV.lt]) fun o nk k hkn hM=>?_;refine wr ?_;refine u_step (g_alloc th27 rfl fun o2 hb2 hk2=>?_);have hM_2:=(hk2 _ (by omega)).trans hM;refine u_nil ?_;refine WP.seq fun K3 hK3=>?_;refine wr ?_;refine uM ?_;refine u_step (o_nc rfl hM_2 ?_);refine uf th63 th4 hM_2 ?_;refine ul th4 hM_2 ?_;refine u_nil ?_;refine wc (fun hc5=>?_) (fun hc5=>?_) <;> try simp only [Q0,Q1,Q2,Q3,Q4,Q5,Q6,Q7,Q8,ge_iff_le,gt_iff_lt] at hc5
 ·
  have h0:s.2=true:=by simpa using hc5
  refine wr ?_;refine u_step (o_bu rfl th27 rfl rfl ?_);refine u_step0 (g_sta rfl rfl th27 rfl hb2 (by first | (simp;done) | (simp [D.leaves,D.width,valCells];done) | decide) fun o7 hb7 hk7=>?_);have hM_7:=(hk7 _ (by omega)).trans hM_2;refine u_nil (WP.ret ?_);refine retCM_ok (resis_agg rfl th27 rfl hb7 rfl rfl rfl) ?_ (by omega) (by rw [rdAllR_bad h0];exact hM_7) (fun t ht=>(hk7 t (by omega)).trans ((hk2 t (by omega))));rw [rdAllR_bad h0];exact leV0 _ _ _
 ·
  have h0:¬ s.2=true:=by simpa using hc5
  refine WP.skip (hK3 _ (wr (uM ?_)));refine u_step (g_mcall (rd145 8 (by decide) s (by omega)) hM_2 rfl fun o9 hb9 hk9=>?_);have hb2_9:=(hk9 _ (by omega)).trans hb2;refine u_step (g_alloc th27 rfl fun o10 hb10 hk10=>?_);have hb2_10:=(hk10 _ (by omega)).trans hb2_9;have hb9_10:=(hk10 _ (by omega)).trans hb9;refine u_step0 (g_sta rfl (congrArg SV.d (encV_eq _)) th27 rfl hb10 (by simp [valCells]) fun o11 hb11 hk11=>?_);have hb2_11:=(hk11 _ (by omega)).trans hb2_10;have hb9_11:=(hk11 _ (by omega)).trans hb9_10;refine u_nil (WP.seq fun K12 hK12=>?_);refine wr (uM ?_);refine u_step (o_nc rfl hb9_11 ?_);refine uf th63 th4 hb9_11 ?_;refine ul th4 hb9_11 ?_;refine um ?_;apply gF
  ·rfl
  ·intro hg;exact pg th27 hb11
  apply gF
  ·rfl
  ·intro hg;try simp only [hg,ct,Bt]
   refine o_pcall (pv (s66 (rdR 8 s).1 (rdR_rng 8 s) hsz)) rfl ⟨rfl,rfl,rfl⟩
  apply gF
  ·rfl
  ·intro hg;try simp only [hg,ct,Bt]
   exact pb
  refine uO ?_;refine u_nil ?_;refine wc (fun hc14=>?_) (fun hc14=>?_) <;> try simp only [Q0,Q1,Q2,Q3,Q4,Q5,Q6,Q7,Q8,ge_iff_le,gt_iff_lt] at hc14
  ·
   have hz:(rdR 8 s).2.2=true∨¬ checkV (rdR 8 s).1=0:=by have hq:=hc14;simpa using hq
   refine wr (uM ?_);refine u_step (o_nc rfl hb9_11 ?_);refine uf th63 th4 hb9_11 ?_;refine u_step0 (g_st rfl rfl rfl th4 rfl hb9_11 (by simp) fun o16 hb16 hk16=>?_);have hb2_16:=(hk16 _ (by omega)).trans hb2_11;have hb11_16:=(hk16 _ (by omega)).trans hb11;refine u_nil (wr ?_);refine u_step (o_bu rfl th27 rfl rfl ?_);refine u_step0 (g_sta rfl rfl th27 rfl hb2_16 (by first | (simp;done) | (simp [D.leaves,D.width,valCells];done) | decide) fun o18 hb18 hk18=>?_);have hb11_18:=(hk18 _ (by omega)).trans hb11_16;have hb16_18:=(hk18 _ (by omega)).trans hb16;refine u_nil (WP.ret ?_);refine retCM_ok (resis_agg rfl th27 rfl hb18 rfl rfl rfl) ?_ (by omega) (by rw [rdAllR_no h0 hz];exact hb16_18) (fun t ht=>(hk18 t (by omega)).trans ((hk16 t (by omega)).trans ((hk11 t (by omega)).trans ((hk10 t (by omega)).trans ((hk9 t (by omega)).trans ((hk2 t (by omega))))))));rw [rdAllR_no h0 hz];exact leV0 _ _ _
  ·
   have hz:¬ ((rdR 8 s).2.2=true∨¬ checkV (rdR 8 s).1=0):=by have hq:=hc14;simpa using hq
   refine WP.skip (hK12 _ (wr (ug th27 hb11 ?_)));refine u_step0 (g_sta rfl rfl th27 rfl hb2_11 (by first | (simp;done) | (simp [D.leaves,D.width,valCells];done) | decide) fun o20 hb20 hk20=>?_);have hb9_20:=(hk20 _ (by omega)).trans hb9_11;have hb11_20:=(hk20 _ (by omega)).trans hb11;refine u_nil (WP.ret ?_);refine retCM_ok (resis_agg rfl th27 rfl hb20 rfl rfl rfl) ?_ (by omega) (by rw [rdAllR_ok h0 hz];exact hb9_20) (fun t ht=>(hk20 t (by omega)).trans ((hk11 t (by omega)).trans ((hk10 t (by omega)).trans ((hk9 t (by omega)).trans ((hk2 t (by omega)))))));rw [rdAllR_ok h0 hz];rw [encV_eq];exact D.le_refl _
def SBq (a b:SB):Prop:=a.2=b.2∧(a.2=false→a=b)
theorem SBq.refl (a:SB):SBq a a:=⟨rfl,fun _=>rfl⟩
theorem SBq.bad {a b:SB} (ha:a.2=true) (hb:b.2=true):SBq a b:=⟨ha.trans hb.symm,fun h=>by rw [ha] at h;cases h⟩
theorem SBq.cases {a b:SB} (h:SBq a b):a=b∨(a.2=true∧b.2=true):=by
 cases ha:a.2 with
 | false=>exact .inl (h.2 ha)
 | true=>exact .inr ⟨rfl,by rw [← h.1];exact ha⟩
def RdQ (rd rd':SB→Val×SB):Prop:=∀ s,(rd s).2.2=(rd' s).2.2∧((rd s).2.2=false→rd s=rd' s)
theorem rdIs_q {rd rd':SB→Val×SB} (h:RdQ rd rd') (doc:Bool):∀ (n:Nat) (s:SB) (xs:List Val) (ns:List Str),
    (rdIs rd doc n s xs ns).2.2.2=(rdIs rd' doc n s xs ns).2.2.2∧((rdIs rd doc n s xs ns).2.2.2=false→rdIs rd doc n s xs ns=rdIs rd' doc n s xs ns)
  | 0,s,xs,ns=>⟨rfl,fun _=>rfl⟩
  | n+1,s,xs,ns=>by
    by_cases hb:s.2=true
    · rw [rdIs_bad hb,rdIs_bad hb];exact ⟨rfl,fun _=>rfl⟩
    · cases doc with
      | true=>
        rw [rdIs_doc rfl hb,rdIs_doc rfl hb];have hq:=h (txtS s 32).2;cases hz:(rd (txtS s 32).2).2.2 with
        | true=>rw [rdIs_bad hz,rdIs_bad (hq.1 ▸ hz)];exact ⟨hq.1,fun e=>by simp only at e;rw [hz] at e;cases e⟩
        | false=>rw [hq.2 hz];exact rdIs_q h true n _ _ _
      | false=>
        rw [rdIs_arr (by decide) hb,rdIs_arr (by decide) hb];have hq:=h s;cases hz:(rd s).2.2 with
        | true=>rw [rdIs_bad hz,rdIs_bad (hq.1 ▸ hz)];exact ⟨hq.1,fun e=>by simp only at e;rw [hz] at e;cases e⟩
        | false=>rw [hq.2 hz];exact rdIs_q h false n _ _ _
theorem byte_bad {s:SB} (h:s.2=true):(rdByte s).2.2=true:=by rw [rdByte_no (.inl h)]
theorem take_bad {s:SB} {n:Nat} {r:Bool} (h:s.2=true):takeS s n r=(false,(s.1,true)):=takeS_no (.inl h)
theorem cnt_bad2 {s:SB} {m:Int} (h:s.2=true):cntS s m=(0,(s.1,true)):=by unfold cntS;rw [take_bad h];rfl
theorem int_bad2 {s:SB} (h:s.2=true):intS s=(0,(s.1,true)):=by unfold intS;rw [take_bad h];rfl
theorem txt_bad2 {s:SB} {m:Int} (h:s.2=true):txtS s m=([],(s.1,true)):=by
 refine txtS_no ?_;unfold txtBad;rw [gP_bad h];simp
theorem rdV_bad (d:Nat) {s:SB} (h:s.2=true):(rdV d s).2.2=true:=by
 cases d with
 | zero=>rfl
 | succ d=>
  have hr:=rdByte_no (.inl h);simp only [rdV,hr];rfl
theorem rdV_q:∀ d:Nat,RdQ (rdV d) (rdR d)
 | 0,s=>⟨rfl,fun h=>by cases h⟩
 | d+1,s=>by
  by_cases g0:(rdByte s).2.2=true
  ·have h1:(rdV (d+1) s).2.2=true:=by
    simp only [rdV]
    repeat' split
    ·exact g0
    ·exact byte_bad g0
    ·rw [int_bad2 g0]
    ·rw [txt_bad2 g0]
    ·rw [rdIs_bad (by rw [cnt_bad2 g0]),cnt_bad2 g0]
    ·rfl
   have h2:(rdR (d+1) s).2.2=true:=by simp only [rdR];rw [if_pos g0];exact g0
   exact ⟨h1.trans h2.symm,fun e=>by rw [h1] at e;cases e⟩
  ·have hq:=rdIs_q (rdV_q d) (decide ((rdByte s).1=7)) (cntS (rdByte s).2 4096).1.toNat (cntS (rdByte s).2 4096).2 [] [];simp only [rdV,rdR];rw [if_neg g0];by_cases g1:(rdByte s).1=1
   ·rw [if_pos g1,if_pos g1];exact ⟨rfl,fun _=>rfl⟩
   rw [if_neg g1,if_neg g1];by_cases g2:(rdByte s).1=2
   ·rw [if_pos g2,if_pos g2];exact ⟨rfl,fun _=>rfl⟩
   rw [if_neg g2,if_neg g2];by_cases g3:(rdByte s).1=3
   ·rw [if_pos g3,if_pos g3];exact ⟨rfl,fun _=>rfl⟩
   rw [if_neg g3,if_neg g3];by_cases g4:(rdByte s).1=4∨(rdByte s).1=5
   ·rw [if_pos g4,if_pos g4];exact ⟨rfl,fun _=>rfl⟩
   rw [if_neg g4,if_neg g4];by_cases g6:(rdByte s).1=6∨(rdByte s).1=7
   ·rw [if_pos g6,if_pos g6];exact ⟨hq.1,fun e=>by rw [hq.2 e]⟩
   rw [if_neg g6,if_neg g6];exact ⟨rfl,fun _=>rfl⟩
theorem rdAll_q (s:SB):(rdAll s).1=(rdAllR s).1∧SBq (rdAll s).2 (rdAllR s).2:=by
 by_cases h0:s.2=true
 ·rw [rdAll_no (.inl (rdV_bad 8 h0)),rdAllR_bad h0];exact ⟨rfl,SBq.bad rfl h0⟩
 ·have hq:=rdV_q 8 s;cases hz:(rdV 8 s).2.2 with
  | true=>
   rw [rdAll_no (.inl hz),rdAllR_no h0 (.inl (hq.1 ▸ hz))];exact ⟨rfl,SBq.bad rfl rfl⟩
  | false=>
   have he:=hq.2 hz;by_cases hc:checkV (rdV 8 s).1=0
   ·have hg:¬ ((rdV 8 s).2.2=true∨¬ checkV (rdV 8 s).1=0):=by
     rintro (e | e)
     ·rw [hz] at e;cases e
     ·exact e hc
    rw [rdAll_ok hg,rdAllR_ok h0 (by rw [← he];exact hg),he];exact ⟨rfl,SBq.refl _⟩
   ·rw [rdAll_no (.inr hc),rdAllR_no h0 (.inr (by rw [← he];exact hc)),he];exact ⟨rfl,SBq.refl _⟩
theorem rdAll_bad {s:SB} (h:s.2=true):rdAll s=(.mk 0 0 [] [] [],((rdV 8 s).2.1,true)):=rdAll_no (.inl (rdV_bad 8 h))
theorem rdAll_le (s:SB):(rdAll s).2.1.length≤s.1.length:=by
 unfold rdAll;split <;> exact rdV_le 8 s
theorem rdAllR_le (s:SB):(rdAllR s).2.1.length≤s.1.length:=by
 unfold rdAllR;split
 ·exact Nat.le_refl _
 ·split <;> exact rdR_le 8 s
theorem rdAll_rng (s:SB):rngV (rdAll s).1:=by
 unfold rdAll;split
 ·exact ⟨by omega,trivial⟩
 ·exact rdV_rng 8 s
theorem rdAll_sz (s:SB) (hx:s.1.length≤1048576):szV (rdAll s).1≤1099511627776:=by
 have h1:=rdV_sz 8 s (by omega);have h2:pot s≤s.1.length+2:=by (unfold pot;split <;> omega)
 unfold rdAll;split
 ·simp [szV,szVs,szN]
 ·split at h1 <;> omega
def rdTs:Nat→SB→List Str→List Str×SB
 | 0,s,ns=>(ns,s)
 | n+1,s,ns=>rdTs n (txtS s 32).2 (ns++[(txtS s 32).1])
def rdTr:Nat→SB→List Str→List Str×SB
 | 0,s,ns=>(ns,s)
 | n+1,s,ns=>if s.2=true then (ns,s) else rdTr n (txtS s 32).2 (ns++[(txtS s 32).1])
theorem rdTs_le:∀ (n:Nat) (s:SB) (ns:List Str),(rdTs n s ns).2.1.length≤s.1.length
 | 0,s,ns=>Nat.le_refl _
 | n+1,s,ns=>Nat.le_trans (rdTs_le n _ _) (txt_le s 32)
def rdD3 (rv:SB→Val×SB) (k:Int) (ns:List Str) (s:SB):Dlt×SB:=
 if k=1 then (⟨k,ns,(rv s).1,0⟩,(rv s).2) else if k=3 then (⟨k,ns,.mk 0 0 [] [] [],(cntS s 999).1⟩,(cntS s 999).2) else (⟨k,ns,.mk 0 0 [] [] [],0⟩,s)
def spoilD (p:Dlt×SB):Dlt×SB:=(p.1,if mayD p.1=true then p.2 else (p.2.1,true))
def rdDl (s:SB):Dlt×SB:=spoilD (rdD3 rdAll (rdByte s).1 (rdTs (cntS (rdByte s).2 8).1.toNat (cntS (rdByte s).2 8).2 []).1 (rdTs (cntS (rdByte s).2 8).1.toNat (cntS (rdByte s).2 8).2 []).2)
theorem spoil_yes {p:Dlt×SB} (h:mayD p.1=true):spoilD p=p:=by unfold spoilD;rw [if_pos h]
theorem spoil_no {p:Dlt×SB} (h:¬ mayD p.1=true):spoilD p=(p.1,(p.2.1,true)):=by unfold spoilD;rw [if_neg h]
theorem map_snoc (ns:List Str) (t:Str):(ns++[t]).map D.str=ns.map D.str++[D.str t]:=by simp
theorem fn93:FnOkC Tryz.prog 93 37 [.cell 2 83] (bodyOf Tryz.f93):=⟨Tryz.f93,Tryz.func93,by kernel_rfl,by decide,by kernel_rfl,by kernel_rfl⟩
theorem s93 (s:SB) (hx:s.1.length≤1048576):MSpec Tryz.prog 93 (fun k=>[.loc k 0]) (srcS s) (srcS (rdDl s).2) (.d (encD (rdDl s).1)):=by
 have hb1:=byte_le s;have hcr:=cnt_rng (rdByte s).2 8 (by decide);have hcl:=cnt_le (rdByte s).2 8;refine MSpec.ofC tabOk fn93 (fun _=>by simp) (fun _=>by first | exact srcS_lts _ _ | simp [SV.lts,SV.lt]) fun o nk k hkn hM=>?_;refine wr ?_;refine u_step (g_alloc th83 rfl fun o2 hb2 hk2=>?_);have hM_2:=(hk2 _ (by omega)).trans hM;refine u_nil (wr (uM ?_));refine u_step (g_mcall (s106 s) hM_2 rfl fun o4 hb4 hk4=>?_);have hb2_4:=(hk4 _ (by omega)).trans hb2;refine u_step (o_bu rfl th83 rfl rfl ?_);refine u_step (g_alloc th83 rfl fun o5 hb5 hk5=>?_);have hb2_5:=(hk5 _ (by omega)).trans hb2_4;have hb4_5:=(hk5 _ (by omega)).trans hb4;refine u_step0 (g_sta rfl rfl th83 rfl hb5 (by first | (simp;done) | (simp [D.leaves,D.width,valCells];done) | decide) fun o6 hb6 hk6=>?_);have hb2_6:=(hk6 _ (by omega)).trans hb2_5;have hb4_6:=(hk6 _ (by omega)).trans hb4_5;refine u_nil (WP.seq fun K7 hK7=>?_);refine wr (uM ?_);refine u_step (g_mcall (s92 _ 8) hb4_6 rfl fun o9 hb9 hk9=>?_);have hb2_9:=(hk9 _ (by omega)).trans hb2_6;have hb6_9:=(hk9 _ (by omega)).trans hb6;refine um (u_nil (WP.block ?_));refine WP.loopL (ι:=Nat×SB×List Str×SV×Option Nat×(Nat→Option AO)×Nat) (fun ⟨i,s1,ns,c,q,o2,nk2⟩=>⟨al [(0,.loc k 0),(2,.loc nk 0),(3,.loc (nk+1) 0),(8,.d (.int .i64 (cntS (rdByte s).2 8).1)),(9,.d (.int .i64 i))],o2,nk2⟩) (fun ⟨i,s1,ns,c,q,o2,nk2⟩=>i≤(cntS (rdByte s).2 8).1.toNat∧nk+2≤nk2∧s1.1.length≤1048576∧ns.length≤i∧rdTs ((cntS (rdByte s).2 8).1.toNat - i) s1 ns=rdTs (cntS (rdByte s).2 8).1.toNat (cntS (rdByte s).2 8).2 []∧o2 k=some (.box (srcS s1))∧o2 (nk+1)=some (.box [.d (.int .i64 (rdByte s).1),c,.d (.int .i64 0),.d (.int .i64 0),.d (.str []),.d .nil,.d .nil,.d (.int .i64 0)])∧o2 nk=some (.box [.d (.int .i64 0),.d .nil,.d (.int .i64 0),.d (.int .i64 0),.d (.str []),.d .nil,.d .nil,.d (.int .i64 0)])∧dstOf o2 9 1 c=some (q,ns.map .str)∧(∀ t,q=some t→nk+2≤t∧t < nk2)∧∀ t,t < nk∧t≠k→o2 t=o t) (fun ⟨i,s1,ns,c,q,o2,nk2⟩=>(cntS (rdByte s).2 8).1.toNat - i) (fun ⟨i,s1,ns,c,q,o2,nk2⟩ hA=>?_) ⟨0,(cntS (rdByte s).2 8).2,[],.d .nil,none,o9,((nk+1)+1)⟩ ?_ ?_
 ·
  obtain ⟨hle,hnk,hsl,hnl,heq,hsk,hob,hzb,hd,hq,hfr⟩:=hA;refine wr ?_;refine ub ?_;refine u_nil ?_;refine WP.seq fun K11 hK11=>?_;refine wc (fun hc12=>?_) (fun hc12=>?_) <;> try simp only [Q0,Q1,Q2,Q3,Q4,Q5,Q6,Q7,Q8,ge_iff_le,gt_iff_lt] at hc12
  ·
   have hlt:i < (cntS (rdByte s).2 8).1.toNat:=by have hgo:=hc12;(try simp at hgo);omega
   refine WP.skip (hK11 _ (WP.seq fun K13 hK13=>?_));refine WP.block ?_;refine WP.dr3 [.q 0 1,.q 0 1,.q 0 0,.w 0,.q 1 1,.w 1,.q 2 2,.w 2] [3,5,7] nk2 (nk2+1) (nk2+1) tabOk (by kernel_rfl) rfl (by kernel_rfl) (by kernel_rfl) ?_;apply Exists.intro;apply Exists.intro;apply Exists.intro;refine e_step2 rfl rfl (o_fa_loc rfl th83 rfl rfl th22 (by decide) hob ⟨rfl,rfl,rfl⟩) ?_ ?_;rotate_left;refine e_step2 rfl rfl (o_ld_locV rfl th22 rfl hob rfl ⟨rfl,rfl,rfl⟩) ?_ ?_;rotate_left;refine e_step rfl (o_moveV (v:=.loc _ _) rfl ⟨rfl,rfl,rfl⟩) ?_;refine e_w rfl rfl (w_mcall (s107 s1 32 (by omega)) hsk rfl ⟨rfl,rfl,rfl⟩) ?_;refine e_step rfl (o_bs rfl th22 rfl th9 rfl rfl (by decide) rfl (by decide) (by decide) ⟨rfl,rfl,rfl⟩) ?_;refine e_w rfl rfl (w_apD rfl th22 rfl th9 rfl rfl (by decide) rfl (dst_keep hd fun t e=>(by have:=hq t e;exact upd_ne _ _ (by omega))) (by simp only [List.length_map,List.length_cons,List.length_nil];omega) (by simp only [List.length_map,List.length_cons,List.length_nil];omega) ⟨rfl,rfl,rfl⟩) ?_;refine e_step rfl (o_fa_loc rfl th83 rfl rfl th22 (by decide) (((upd_ne _ _ (by omega)).trans (killo_ne (fun e=>by have:=hq _ e;omega))).trans ((upd_ne _ _ (by omega)).trans hob)) ⟨rfl,rfl,rfl⟩) ?_;refine e_w0 rfl rfl (w_stV rfl rfl (upd_same _ _ _) th22 rfl (((upd_ne _ _ (by omega)).trans (killo_ne (fun e=>by have:=hq _ e;omega))).trans ((upd_ne _ _ (by omega)).trans hob)) (by simp) ⟨rfl,rfl,rfl⟩) ?_;refine e_nil rfl fun o17 ho17=>?_;have hbZ_17:=(ho17 _).trans ((upd_ne _ _ (by omega)).trans (((upd_ne _ _ (by omega)).trans (killo_ne (fun e=>by have:=hq _ e;omega))).trans ((upd_ne _ _ (by omega)).trans hzb)));have hbM_17:=(ho17 _).trans ((upd_ne _ _ (by omega)).trans (((upd_ne _ _ (by omega)).trans (killo_ne (fun e=>by have:=hq _ e;omega))).trans (upd_same _ _ _)));have hbr15_17:=(ho17 _).trans ((upd_ne _ _ (by omega)).trans (upd_same _ _ _));have hbB_17:=(ho17 _).trans (upd_same _ _ _);have hk17:∀ t,t < nk∧t≠k→o17 t=o2 t:=fun t ht=>(ho17 t).trans ((upd_ne _ _ (by omega)).trans (((upd_ne _ _ (by omega)).trans (killo_ne (fun e=>by have:=hq _ e;omega))).trans (upd_ne _ _ (by omega))))
   ·
    refine hK13 _ (WP.reg tabOk rfl ?_);refine ub (um (u_nil ?_));refine ⟨⟨i+1,(txtS s1 32).2,ns++[(txtS s1 32).1],.row _,some _,o17,(nk2+1)⟩,⟨by omega,by omega,by have:=txt_le s1 32;omega,by simp;omega,?_,hbM_17,hbB_17,hbZ_17,(map_snoc ns _).symm ▸ dst_row hbr15_17,fun t e=>by injection e with e;omega,(fun t ht=>(hk17 t (by omega)).trans ((hfr t (by omega))))⟩,by simp only;omega,Le.al ?_⟩
    ·rw [← heq,show (cntS (rdByte s).2 8).1.toNat - i=((cntS (rdByte s).2 8).1.toNat - (i+1))+1 by omega];rfl
    ·simp only [List.forall_mem_cons];exact ⟨rfl,rfl,rfl,rfl,cnt (by omega),by simp⟩
   exact o_fa_loc rfl th83 rfl rfl th22 (by decide) ((upd_ne _ _ (by omega)).trans hob) ⟨rfl,rfl,rfl⟩;exact o_ld_locV rfl th22 rfl ((upd_ne _ _ (by omega)).trans hob) rfl ⟨rfl,rfl,rfl⟩
  ·
   have hge:(cntS (rdByte s).2 8).1.toNat - i=0:=by have hgo:=hc12;(try simp at hgo);omega
   have hfin:rdTs (cntS (rdByte s).2 8).1.toNat (cntS (rdByte s).2 8).2 []=(ns,s1):=by rw [← heq,hge];rfl
   have hrd:rdDl s=spoilD (rdD3 rdAll (rdByte s).1 ns s1):=by unfold rdDl;rw [hfin]
   refine WP.exit ?_;refine hK7 _ ?_;refine WP.seq fun K18 hK18=>?_;refine WP.frzC (pre:=[.d (.int .i64 (rdByte s).1)]) (post:=[.d (.int .i64 0),.d (.int .i64 0),.d (.str []),.d .nil,.d .nil,.d (.int .i64 0)]) [(0,.loc k 0),(2,.loc nk 0),(3,.loc (nk+1) 0)] nk hob hd (by omega) (fun t e=>⟨rfl,rfl⟩) (fun t e=>by simp only [List.forall_mem_cons];exact ⟨rfl,rfl,rfl,by simp⟩) (fun e=>by simp only [List.forall_mem_cons];exact ⟨rfl,rfl,rfl,by simp⟩) fun o9 hB9 hk9 hm9=>?_;have hF9:∀ t,t < nk→o9 t=o2 t:=fun t ht=>hk9 t ht (fun h=>by have:=hq t h;omega);have hM9:=(hF9 _ hkn).trans hsk;have hZ9:=hm9 _ _ (by omega) hzb fun t d=>rfl;refine WP.leB [.d (.int .i64 (rdByte s).1),.d (.sl 1 (ns.map .str)),.d (.int .i64 0),.d (.int .i64 0),.d (.str []),.d (.sl 5 []),.d (.sl 1 []),.d (.int .i64 0)] hB9 ⟨D.le_refl _,D.le_refl _,D.le_refl _,D.le_refl _,D.le_refl _,rfl,rfl,D.le_refl _,trivial⟩ fun o8 hB8 hk8=>?_;have hF8:∀ t,t < nk→o8 t=o9 t:=fun t ht=>hk8 t (by omega);have hM8:=(hF8 _ hkn).trans hM9;have hZ8:=(hk8 _ (by omega)).trans hZ9;refine wr ?_;refine uf th83 th3 hB8 ?_;refine ul th3 hB8 ?_;refine u_nil ?_;refine WP.block ?_;refine wr ?_;refine ub ?_;refine ua ?_;refine u_nil ?_;refine wc (fun hc21=>?_) (fun hc21=>?_) <;> try simp only [Q0,Q1,Q2,Q3,Q4,Q5,Q6,Q7,Q8,ge_iff_le,gt_iff_lt] at hc21
   ·
    have g1:(rdByte s).1=1:=by simpa using hc21
    have hd3:rdD3 rdAll (rdByte s).1 ns s1=((⟨(rdByte s).1,ns,(rdAll s1).1,0⟩:Dlt),(rdAll s1).2):=if_pos g1;have hok:okD (⟨(rdByte s).1,ns,(rdAll s1).1,0⟩:Dlt):=⟨rdAll_rng s1,rdAll_sz s1 (by omega)⟩;refine WP.reg tabOk rfl ?_;refine uM ?_;refine u_step (g_mcall (s108 s1 (by omega)) hM8 rfl fun o22 hb22 hk22=>?_);have hB8_22:=(hk22 _ (by omega)).trans hB8;have hZ8_22:=(hk22 _ (by omega)).trans hZ8;refine uf th83 th27 hB8_22 ?_;refine u_step0 (g_sta rfl (congrArg SV.d (encV_eq _)) th27 rfl hB8_22 (by simp [valCells]) fun o23 hb23 hk23=>?_);have hZ8_23:=(hk23 _ (by omega)).trans hZ8_22;have hb22_23:=(hk23 _ (by omega)).trans hb22;refine u_nil ?_;refine hK18 _ ?_;refine WP.seq fun K24 hK24=>?_;refine wr ?_;refine ug th83 hb23 ?_;refine u_step (o_pcall (s73 _ hok) rfl ?_);refine uN ?_;refine u_nil ?_;refine wc (fun hc26=>?_) (fun hc26=>?_) <;> try simp only [Q0,Q1,Q2,Q3,Q4,Q5,Q6,Q7,Q8,ge_iff_le,gt_iff_lt] at hc26
    ·
     have hm:¬ mayD (rdD3 rdAll (rdByte s).1 ns s1).1=true:=by rw [hd3];simpa using hc26
     have hr:=hrd.trans (spoil_no hm);rw [hd3] at hr;refine WP.reg tabOk rfl ?_;refine uM ?_;refine u_step (g_mcall (s109 _) hb22_23 rfl fun o27 hb27 hk27=>?_);have hZ8_27:=(hk27 _ (by omega)).trans hZ8_23;have hb23_27:=(hk27 _ (by omega)).trans hb23;refine u_nil (hK24 _ (wr (ug th83 hb23_27 ?_)));refine u_step0 (g_sta rfl rfl th83 rfl hZ8_27 (by first | (simp;done) | (simp [D.leaves,D.width,valCells];done) | decide) fun o29 hb29 hk29=>?_);have hb23_29:=(hk29 _ (by omega)).trans hb23_27;have hb27_29:=(hk29 _ (by omega)).trans hb27;refine u_nil (WP.ret ?_);refine retCM_ok (resis_agg rfl th83 rfl hb29 rfl rfl rfl) ?_ (by omega) (by rw [hr];exact hb27_29) (fun t ht=>(hk29 t (by omega)).trans ((hk27 t (by omega)).trans ((hk23 t (by omega)).trans ((hk22 t (by omega)).trans ((hF8 t (by omega)).trans ((hF9 t (by omega)).trans ((hfr t (by omega)))))))));rw [hr];exact D.le_refl _
    ·
     have hm:mayD (rdD3 rdAll (rdByte s).1 ns s1).1=true:=by rw [hd3];simpa using hc26
     have hr:=hrd.trans (spoil_yes hm);rw [hd3] at hr;refine WP.skip (hK24 _ (wr (ug th83 hb23 ?_)));refine u_step0 (g_sta rfl rfl th83 rfl hZ8_23 (by first | (simp;done) | (simp [D.leaves,D.width,valCells];done) | decide) fun o31 hb31 hk31=>?_);have hb22_31:=(hk31 _ (by omega)).trans hb22_23;have hb23_31:=(hk31 _ (by omega)).trans hb23;refine u_nil (WP.ret ?_);refine retCM_ok (resis_agg rfl th83 rfl hb31 rfl rfl rfl) ?_ (by omega) (by rw [hr];exact hb22_31) (fun t ht=>(hk31 t (by omega)).trans ((hk23 t (by omega)).trans ((hk22 t (by omega)).trans ((hF8 t (by omega)).trans ((hF9 t (by omega)).trans ((hfr t (by omega))))))));rw [hr];exact D.le_refl _
   ·
    have g1:¬ (rdByte s).1=1:=by simpa using hc21
    refine wr ?_;refine ub ?_;refine ua ?_;refine u_nil ?_;refine wc (fun hc33=>?_) (fun hc33=>?_) <;> try simp only [Q0,Q1,Q2,Q3,Q4,Q5,Q6,Q7,Q8,ge_iff_le,gt_iff_lt] at hc33
    ·
     have g3:(rdByte s).1=3:=by simpa using hc33
     have hd3:rdD3 rdAll (rdByte s).1 ns s1=((⟨(rdByte s).1,ns,.mk 0 0 [] [] [],(cntS s1 999).1⟩:Dlt),(cntS s1 999).2):=(if_neg g1).trans (if_pos g3);have hok:okD (⟨(rdByte s).1,ns,.mk 0 0 [] [] [],(cntS s1 999).1⟩:Dlt):=⟨⟨by decide,trivial⟩,by simp [szV,szVs,szN]⟩;refine WP.reg tabOk rfl ?_;refine uM ?_;refine u_step (g_mcall (s92 _ 999) hM8 rfl fun o34 hb34 hk34=>?_);have hB8_34:=(hk34 _ (by omega)).trans hB8;have hZ8_34:=(hk34 _ (by omega)).trans hZ8;refine uf th83 th3 hB8_34 ?_;refine u_step0 (g_st rfl rfl rfl th3 rfl hB8_34 (by first | (simp;done) | (simp [D.leaves,D.width];done) | decide) fun o35 hb35 hk35=>?_);have hZ8_35:=(hk35 _ (by omega)).trans hZ8_34;have hb34_35:=(hk35 _ (by omega)).trans hb34;refine u_nil ?_;refine hK18 _ ?_;refine WP.seq fun K36 hK36=>?_;refine wr ?_;refine ug th83 hb35 ?_;refine u_step (o_pcall (s73 _ hok) rfl ?_);refine uN ?_;refine u_nil ?_;refine wc (fun hc38=>?_) (fun hc38=>?_) <;> try simp only [Q0,Q1,Q2,Q3,Q4,Q5,Q6,Q7,Q8,ge_iff_le,gt_iff_lt] at hc38
     ·
      have hm:¬ mayD (rdD3 rdAll (rdByte s).1 ns s1).1=true:=by rw [hd3];simpa using hc38
      have hr:=hrd.trans (spoil_no hm);rw [hd3] at hr;refine WP.reg tabOk rfl ?_;refine uM ?_;refine u_step (g_mcall (s109 _) hb34_35 rfl fun o39 hb39 hk39=>?_);have hZ8_39:=(hk39 _ (by omega)).trans hZ8_35;have hb35_39:=(hk39 _ (by omega)).trans hb35;refine u_nil (hK36 _ (wr (ug th83 hb35_39 ?_)));refine u_step0 (g_sta rfl rfl th83 rfl hZ8_39 (by first | (simp;done) | (simp [D.leaves,D.width,valCells];done) | decide) fun o41 hb41 hk41=>?_);have hb35_41:=(hk41 _ (by omega)).trans hb35_39;have hb39_41:=(hk41 _ (by omega)).trans hb39;refine u_nil (WP.ret ?_);refine retCM_ok (resis_agg rfl th83 rfl hb41 rfl rfl rfl) ?_ (by omega) (by rw [hr];exact hb39_41) (fun t ht=>(hk41 t (by omega)).trans ((hk39 t (by omega)).trans ((hk35 t (by omega)).trans ((hk34 t (by omega)).trans ((hF8 t (by omega)).trans ((hF9 t (by omega)).trans ((hfr t (by omega)))))))));rw [hr];exact D.le_refl _
     ·
      have hm:mayD (rdD3 rdAll (rdByte s).1 ns s1).1=true:=by rw [hd3];simpa using hc38
      have hr:=hrd.trans (spoil_yes hm);rw [hd3] at hr;refine WP.skip (hK36 _ (wr (ug th83 hb35 ?_)));refine u_step0 (g_sta rfl rfl th83 rfl hZ8_35 (by first | (simp;done) | (simp [D.leaves,D.width,valCells];done) | decide) fun o43 hb43 hk43=>?_);have hb34_43:=(hk43 _ (by omega)).trans hb34_35;have hb35_43:=(hk43 _ (by omega)).trans hb35;refine u_nil (WP.ret ?_);refine retCM_ok (resis_agg rfl th83 rfl hb43 rfl rfl rfl) ?_ (by omega) (by rw [hr];exact hb34_43) (fun t ht=>(hk43 t (by omega)).trans ((hk35 t (by omega)).trans ((hk34 t (by omega)).trans ((hF8 t (by omega)).trans ((hF9 t (by omega)).trans ((hfr t (by omega))))))));rw [hr];exact D.le_refl _
    ·
     have g3:¬ (rdByte s).1=3:=by simpa using hc33
     have hd3:rdD3 rdAll (rdByte s).1 ns s1=((⟨(rdByte s).1,ns,.mk 0 0 [] [] [],0⟩:Dlt),s1):=(if_neg g1).trans (if_neg g3);have hok:okD (⟨(rdByte s).1,ns,.mk 0 0 [] [] [],0⟩:Dlt):=⟨⟨by decide,trivial⟩,by simp [szV,szVs,szN]⟩;refine WP.skip ?_;refine hK18 _ ?_;refine WP.seq fun K44 hK44=>?_;refine wr ?_;refine ug th83 hB8 ?_;refine u_step (o_pcall (s73 _ hok) rfl ?_);refine uN ?_;refine u_nil ?_;refine wc (fun hc46=>?_) (fun hc46=>?_) <;> try simp only [Q0,Q1,Q2,Q3,Q4,Q5,Q6,Q7,Q8,ge_iff_le,gt_iff_lt] at hc46
     ·
      have hm:¬ mayD (rdD3 rdAll (rdByte s).1 ns s1).1=true:=by rw [hd3];simpa using hc46
      have hr:=hrd.trans (spoil_no hm);rw [hd3] at hr;refine WP.reg tabOk rfl ?_;refine uM ?_;refine u_step (g_mcall (s109 _) hM8 rfl fun o47 hb47 hk47=>?_);have hB8_47:=(hk47 _ (by omega)).trans hB8;have hZ8_47:=(hk47 _ (by omega)).trans hZ8;refine u_nil (hK44 _ (wr (ug th83 hB8_47 ?_)));refine u_step0 (g_sta rfl rfl th83 rfl hZ8_47 (by first | (simp;done) | (simp [D.leaves,D.width,valCells];done) | decide) fun o49 hb49 hk49=>?_);have hB8_49:=(hk49 _ (by omega)).trans hB8_47;have hb47_49:=(hk49 _ (by omega)).trans hb47;refine u_nil (WP.ret ?_);refine retCM_ok (resis_agg rfl th83 rfl hb49 rfl rfl rfl) ?_ (by omega) (by rw [hr];exact hb47_49) (fun t ht=>(hk49 t (by omega)).trans ((hk47 t (by omega)).trans ((hF8 t (by omega)).trans ((hF9 t (by omega)).trans ((hfr t (by omega)))))));rw [hr];exact D.le_refl _
     ·
      have hm:mayD (rdD3 rdAll (rdByte s).1 ns s1).1=true:=by rw [hd3];simpa using hc46
      have hr:=hrd.trans (spoil_yes hm);rw [hd3] at hr;refine WP.skip (hK44 _ (wr (ug th83 hB8 ?_)));refine u_step0 (g_sta rfl rfl th83 rfl hZ8 (by first | (simp;done) | (simp [D.leaves,D.width,valCells];done) | decide) fun o51 hb51 hk51=>?_);have hM8_51:=(hk51 _ (by omega)).trans hM8;have hB8_51:=(hk51 _ (by omega)).trans hB8;refine u_nil (WP.ret ?_);refine retCM_ok (resis_agg rfl th83 rfl hb51 rfl rfl rfl) ?_ (by omega) (by rw [hr];exact hM8_51) (fun t ht=>(hk51 t (by omega)).trans ((hF8 t (by omega)).trans ((hF9 t (by omega)).trans ((hfr t (by omega))))));rw [hr];exact D.le_refl _
 ·
  refine ⟨by omega,by omega,by omega,by simp,rfl,hb9,hb6_9,hb2_9,rfl,by simp,(fun t ht=>(hk9 t (by omega)).trans ((hk6 t (by omega)).trans ((hk5 t (by omega)).trans ((hk4 t (by omega)).trans ((hk2 t (by omega)))))))⟩
 ·
  refine Le.al ?_;simp only [List.forall_mem_cons];exact ⟨rfl,rfl,rfl,rfl,rfl,by simp⟩
theorem rdD3_le (k:Int) (ns:List Str) (s:SB):(rdD3 rdAll k ns s).2.1.length≤s.1.length:=by
 unfold rdD3;split
 ·exact rdAll_le s
 ·split
  ·exact cnt_le _ _
  ·exact Nat.le_refl _
theorem spoil_len (p:Dlt×SB):(spoilD p).2.1.length=p.2.1.length:=by unfold spoilD;simp only;split <;> rfl
theorem rdDl_le (s:SB):(rdDl s).2.1.length≤s.1.length:=by
 unfold rdDl;rw [spoil_len];exact Nat.le_trans (rdD3_le _ _ _) (Nat.le_trans (rdTs_le _ _ _) (Nat.le_trans (cnt_le _ _) (byte_le s)))
def rdDls:Nat→SB→List Dlt→List Dlt×SB
 | 0,s,ds=>(ds,s)
 | n+1,s,ds=>rdDls n (rdDl s).2 (if (rdDl s).2.2=true then ds else ds++[(rdDl s).1])
def rdDq (r:List Dlt×SB):List Dlt×SB:=(if r.2.2=true then [] else r.1,r.2)
def rdDsP (s:SB):List Dlt×SB:=rdDq (rdDls (cntS s 64).1.toNat (cntS s 64).2 [])
theorem rdDq_no {r:List Dlt×SB} (h:r.2.2=true):rdDq r=([],r.2):=by unfold rdDq;rw [if_pos h]
theorem rdDq_ok {r:List Dlt×SB} (h:¬ r.2.2=true):rdDq r=r:=by unfold rdDq;rw [if_neg h]
theorem mapD_snoc (ds:List Dlt) (d:Dlt):(ds++[d]).map encD=ds.map encD++[encD d]:=by simp
theorem fn38:FnOk Tryz.prog 38 22 [2] (bodyOf Tryz.f38):=⟨Tryz.f38,Tryz.func38,by kernel_rfl,by decide,by kernel_rfl,by kernel_rfl⟩
theorem s38 (s:SB) (hx:s.1.length≤1048576):MSpec Tryz.prog 38 (fun k=>[.loc k 0]) (srcS s) (srcS (rdDsP s).2) (.d (.sl 8 ((rdDsP s).1.map encD))):=by
 have hcr:=cnt_rng s 64 (by decide);have hcl:=cnt_le s 64;refine MSpec.ofW fn38 (fun _=>by simp) (fun _=>by first | exact srcS_lts _ _ | simp [SV.lts,SV.lt]) fun o nk k hkn hM=>?_;refine wr (ua (u_nil (wr (ua (u_nil (WP.seq fun K3 hK3=>?_))))));refine wr (uM ?_);refine u_step (g_mcall (s92 s 64) hM rfl fun o5 hb5 hk5=>?_);refine um (u_nil (WP.block ?_));refine WP.loopL (ι:=Nat×SB×List Dlt×SV×Option Nat×(Nat→Option AO)×Nat) (fun ⟨i,s1,ds,c,q,o2,nk2⟩=>⟨al [(0,.loc k 0),(3,c),(6,.d (.int .i64 (cntS s 64).1)),(7,.d (.int .i64 i))],o2,nk2⟩) (fun ⟨i,s1,ds,c,q,o2,nk2⟩=>i≤(cntS s 64).1.toNat∧nk≤nk2∧s1.1.length≤1048576∧ds.length≤i∧rdDls ((cntS s 64).1.toNat - i) s1 ds=rdDls (cntS s 64).1.toNat (cntS s 64).2 []∧o2 k=some (.box (srcS s1))∧dstOf o2 83 8 c=some (q,ds.map encD)∧(∀ t,q=some t→nk≤t∧t < nk2)∧∀ t,t < nk∧t≠k→o2 t=o t) (fun ⟨i,s1,ds,c,q,o2,nk2⟩=>(cntS s 64).1.toNat - i) (fun ⟨i,s1,ds,c,q,o2,nk2⟩ hA=>?_) ⟨0,(cntS s 64).2,[],.d .nil,none,o5,nk⟩ ?_ ?_
 ·
  obtain ⟨hle,hnk,hsl,hnl,heq,hsk,hd,hq,hfr⟩:=hA;refine wr ?_;refine ub ?_;refine u_nil ?_;refine WP.seq fun K7 hK7=>?_;refine wc (fun hc8=>?_) (fun hc8=>?_) <;> try simp only [Q0,Q1,Q2,Q3,Q4,Q5,Q6,Q7,Q8,ge_iff_le,gt_iff_lt] at hc8
  ·
   have hlt:i < (cntS s 64).1.toNat:=by have hgo:=hc8;(try simp at hgo);omega
   refine WP.skip ?_;refine hK7 _ ?_;refine WP.seq fun K9 hK9=>?_;refine WP.block ?_;refine wr ?_;refine uM ?_;refine u_step (g_mcall (s93 s1 (by omega)) hsk rfl fun o11 hb11 hk11=>?_);have hd_11:=dst_keep hd fun t e=>hk11 t (by have:=hq t e;omega);refine u_step (g_alloc th83 rfl fun o12 hb12 hk12=>?_);have hd_12:=dst_keep hd_11 fun t e=>hk12 t (by have:=hq t e;omega);have hb11_12:=(hk12 _ (by omega)).trans hb11;refine u_step0 (g_sta rfl rfl th83 rfl hb12 (by first | (simp;done) | (simp [D.leaves,D.width,valCells];done) | decide) fun o13 hb13 hk13=>?_);have hd_13:=dst_keep hd_12 fun t e=>hk13 t (by have:=hq t e;omega);have hb11_13:=(hk13 _ (by omega)).trans hb11_12;refine u_nil ?_;refine wr ?_;refine uM ?_;refine u_step (o_scall (s41 _ hb11_13) rfl ?_);refine uN ?_;refine u_nil ?_;refine wc (fun hc15=>?_) (fun hc15=>?_) <;> try simp only [Q0,Q1,Q2,Q3,Q4,Q5,Q6,Q7,Q8,ge_iff_le,gt_iff_lt] at hc15
   ·
    have hb0:¬ (rdDl s1).2.2=true:=by have hgo:=hc15;simpa using hgo
    refine WP.reg tabOk rfl ?_;refine u_step (o_moveV (v:=c) rfl ?_);refine ug th83 hb13 ?_
    refine u_step (o_bs rfl th28 rfl th83 rfl rfl (by decide) rfl (by decide) (by decide) ?_)
    refine u_step (g_apD2 rfl th28 rfl th83 rfl rfl (by decide) rfl hd_13 (by simp only [List.length_map,List.length_cons,List.length_nil];omega) (by simp only [List.length_map,List.length_cons,List.length_nil];omega) fun o16 hb16 hk16=>?_);have hb11_16:=(hk16 _ (by omega) (fun e=>by have:=hq _ e.symm;omega)).trans hb11_13;have hb13_16:=(hk16 _ (by omega) (fun e=>by have:=hq _ e.symm;omega)).trans hb13;refine uS (u_nil (hK9 _ (WP.reg tabOk rfl ?_)));refine ub (um (u_nil ?_));refine ⟨⟨i+1,(rdDl s1).2,ds++[(rdDl s1).1],.row _,some _,o16,((nk2+1)+1)⟩,⟨by omega,by omega,by have:=rdDl_le s1;omega,by simp;omega,?_,hb11_16,(mapD_snoc ds _).symm ▸ dst_row hb16,fun t e=>by injection e with e;omega,(fun t ht=>(hk16 t (by omega) (fun e=>by have:=hq _ e.symm;omega)).trans ((hk13 t (by omega)).trans ((hk12 t (by omega)).trans ((hk11 t (by omega)).trans ((hfr t (by omega)))))))⟩,by simp only;omega,Le.al ?_⟩
    ·rw [← heq,show (cntS s 64).1.toNat - i=((cntS s 64).1.toNat - (i+1))+1 by omega];simp only [rdDls];rw [if_neg hb0]
    ·simp only [List.forall_mem_cons];exact ⟨rfl,rfl,rfl,cnt (by omega),by simp⟩
   ·
    have hb0:(rdDl s1).2.2=true:=by have hgo:=hc15;simpa using hgo
    refine WP.skip (hK9 _ (WP.reg tabOk rfl ?_));refine ub (um (u_nil ?_));refine ⟨⟨i+1,(rdDl s1).2,ds,c,q,o13,(nk2+1)⟩,⟨by omega,by omega,by have:=rdDl_le s1;omega,by omega,?_,hb11_13,hd_13,fun t e=>by have:=hq t e;omega,(fun t ht=>(hk13 t (by omega)).trans ((hk12 t (by omega)).trans ((hk11 t (by omega)).trans ((hfr t (by omega))))))⟩,by simp only;omega,Le.al ?_⟩
    ·rw [← heq,show (cntS s 64).1.toNat - i=((cntS s 64).1.toNat - (i+1))+1 by omega];simp only [rdDls];rw [if_pos hb0]
    ·simp only [List.forall_mem_cons];exact ⟨rfl,rfl,rfl,cnt (by omega),by simp⟩
  ·
   have hge:(cntS s 64).1.toNat - i=0:=by have hgo:=hc8;(try simp at hgo);omega
   have hfin:rdDls (cntS s 64).1.toNat (cntS s 64).2 []=(ds,s1):=by rw [← heq,hge];rfl
   have hrd:rdDsP s=rdDq (ds,s1):=by unfold rdDsP;rw [hfin]
   refine WP.exit ?_;refine hK3 _ ?_;refine WP.seq fun K17 hK17=>?_;refine wr ?_;refine uM ?_;refine u_step (o_scall (s41 s1 hsk) rfl ?_);refine u_nil ?_;refine wc (fun hc19=>?_) (fun hc19=>?_) <;> try simp only [Q0,Q1,Q2,Q3,Q4,Q5,Q6,Q7,Q8,ge_iff_le,gt_iff_lt] at hc19
   ·
    have hr:rdDsP s=([],s1):=hrd.trans (rdDq_no (by simpa using hc19));refine wr (ua (u_nil (WP.ret ?_)));refine retMW_ok rfl ?_ (by omega) (by rw [hr];exact hsk) (fun t ht=>(hfr t (by omega)));rw [hr];exact rfl
   ·
    have hr:rdDsP s=(ds,s1):=hrd.trans (rdDq_ok (by simpa using hc19));refine WP.skip (hK17 _ ?_);refine WP.frzS (fun y=>[(0,.loc k 0),(3,.d y)]) nk hd (fun t h1 h2=>by subst h2;simp only [List.forall_mem_cons];exact ⟨rfl,(show SV.frz t (.sl 8 (ds.map encD)) (.row t)=_ from if_pos rfl),by simp⟩) (fun h2=>by subst h2;simp only [List.forall_mem_cons];exact ⟨rfl,rfl,by simp⟩) fun y o9 hy hk9=>?_;have hF9:∀ t,t < nk→o9 t=o2 t:=fun t ht=>hk9 t ht (fun h=>by have:=hq t h;omega);have hM9:=(hF9 _ hkn).trans hsk;refine wr (um (ua (u_nil (WP.ret ?_))));refine retMW_ok rfl ?_ (by omega) (by rw [hr];exact hM9) (fun t ht=>(hF9 t (by omega)).trans ((hfr t (by omega))));rw [hr];exact hy
 ·
  refine ⟨by omega,by omega,by omega,by simp,rfl,hb5,rfl,by simp,(fun t ht=>(hk5 t (by omega)))⟩
 ·
  refine Le.al ?_;simp only [List.forall_mem_cons];exact ⟨rfl,rfl,rfl,rfl,by simp⟩
theorem rdAllR_rng (s:SB):rngV (rdAllR s).1:=by
 rw [← (rdAll_q s).1];exact rdAll_rng s
theorem rdAllR_sz (s:SB) (hx:s.1.length≤1048576):szV (rdAllR s).1≤1099511627776:=by
 rw [← (rdAll_q s).1];exact rdAll_sz s hx
theorem rdTr_bad {n:Nat} {s:SB} {ns:List Str} (hb:s.2=true):rdTr n s ns=(ns,s):=by
 cases n with
 | zero=>rfl
 | succ n=>simp only [rdTr,if_pos hb]
theorem rdTr_le:∀ (n:Nat) (s:SB) (ns:List Str),(rdTr n s ns).2.1.length≤s.1.length
 | 0,s,ns=>Nat.le_refl _
 | n+1,s,ns=>by
  simp only [rdTr];split
  ·exact Nat.le_refl _
  ·exact Nat.le_trans (rdTr_le n _ _) (txt_le s 32)
def rdDr (s:SB):Dlt×SB:=spoilD (rdD3 rdAllR (rdByte s).1 (rdTr (cntS (rdByte s).2 8).1.toNat (cntS (rdByte s).2 8).2 []).1 (rdTr (cntS (rdByte s).2 8).1.toNat (cntS (rdByte s).2 8).2 []).2)
theorem rdD3r_le (k:Int) (ns:List Str) (s:SB):(rdD3 rdAllR k ns s).2.1.length≤s.1.length:=by
 unfold rdD3;split
 ·exact rdAllR_le s
 ·split
  ·exact cnt_le _ _
  ·exact Nat.le_refl _
theorem rdDr_le (s:SB):(rdDr s).2.1.length≤s.1.length:=by
 unfold rdDr;rw [spoil_len];exact Nat.le_trans (rdD3r_le _ _ _) (Nat.le_trans (rdTr_le _ _ _) (Nat.le_trans (cnt_le _ _) (byte_le s)))
def rdDlr:Nat→SB→List Dlt→List Dlt×SB
 | 0,s,ds=>(ds,s)
 | n+1,s,ds=>if s.2=true then (ds,s) else rdDlr n (rdDr s).2 (ds++[(rdDr s).1])
def rdDsR (s:SB):List Dlt×SB:=rdDq (rdDlr (cntS s 64).1.toNat (cntS s 64).2 [])
theorem rdDlr_bad {n:Nat} {s:SB} {ds:List Dlt} (hb:s.2=true):rdDlr n s ds=(ds,s):=by
 cases n with
 | zero=>rfl
 | succ n=>simp only [rdDlr,if_pos hb]
theorem dst_frz {o:Nat→Option AO} {e z:Nat} {c:SV} {q:Option Nat} {xs:List D} {t:Nat} {d:D} (h:dstOf o e z c=some (q,xs)) (hn:q≠some t):c.frz t d=c:=by
 rcases dst_two h with ⟨rfl,_,_⟩ | ⟨u,rfl,rfl,_⟩
 ·rfl
 ·exact if_neg (fun e=>hn (by rw [e]))
theorem fn40:FnOk Tryz.prog 40 74 [2] (bodyOf Tryz.f40):=⟨Tryz.f40,Tryz.func40,by kernel_rfl,by decide,by kernel_rfl,by kernel_rfl⟩
theorem s40 (s:SB) (hx:s.1.length≤1048576):MSpec Tryz.prog 40 (fun k=>[.loc k 0]) (srcS s) (srcS (rdDsR s).2) (.d (.sl 8 ((rdDsR s).1.map encD))):=by
 have hcr:=cnt_rng s 64 (by decide);have hcl:=cnt_le s 64;refine MSpec.ofW fn40 (fun _=>by simp) (fun _=>by first | exact srcS_lts _ _ | simp [SV.lts,SV.lt]) fun o nk k hkn hM=>?_;refine wr (ua (u_nil (wr (uM ?_))));refine u_step (g_mcall (s94 s 64) hM rfl fun o3 hb3 hk3=>?_);refine ua (u_nil (wr (ua (u_nil (WP.seq fun K5 hK5=>?_)))));refine wr (ua (u_nil (WP.block ?_)));refine WP.loopL (ι:=Nat×SB×List Dlt×SV×Option Nat×(Nat→Option AO)×Nat) (fun ⟨i,s1,ds,c,q,o2,nk2⟩=>⟨al [(0,.loc k 0),(3,.d (.int .i64 (cntS s 64).1)),(4,c),(5,.d (.int .i64 i))],o2,nk2⟩) (fun ⟨i,s1,ds,c,q,o2,nk2⟩=>i≤(cntS s 64).1.toNat∧nk≤nk2∧s1.1.length≤1048576∧ds.length≤i∧rdDlr ((cntS s 64).1.toNat - i) s1 ds=rdDlr (cntS s 64).1.toNat (cntS s 64).2 []∧o2 k=some (.box (srcS s1))∧dstOf o2 83 8 c=some (q,ds.map encD)∧(∀ t,q=some t→nk≤t∧t < nk2)∧∀ t,t < nk∧t≠k→o2 t=o t) (fun ⟨i,s1,ds,c,q,o2,nk2⟩=>(cntS s 64).1.toNat - i) (fun ⟨i,s1,ds,c,q,o2,nk2⟩ hA=>?_) ⟨0,(cntS s 64).2,[],.d .nil,none,o3,nk⟩ ?_ ?_
 ·
  obtain ⟨hle,hnk,hsl,hnl,heq,hsk,hd,hq,hfr⟩:=hA;refine WP.seq fun K7 hK7=>?_;refine wr (um (um (ub (um ?_))));apply gT
  ·rfl
  ·intro hg;refine o_moveV (v:=.loc _ _) rfl ⟨rfl,rfl,rfl⟩
  apply gT
  ·rfl
  ·intro hg;try simp only [hg,ct,Bt]
   refine o_nc rfl hsk ⟨rfl,rfl,rfl⟩
  apply gT
  ·rfl
  ·intro hg;try simp only [hg,ct,Bt]
   exact pf th63 th4 hsk
  apply gT
  ·rfl
  ·intro hg;try simp only [hg,ct,Bt]
   exact pl th4 hsk
  apply gT
  ·rfl
  ·intro hg;try simp only [hg,ct,Bt]
   exact pN
  refine uA ?_;refine u_nil ?_;refine wc (fun hc9=>?_) (fun hc9=>?_) <;> try simp only [Q0,Q1,Q2,Q3,Q4,Q5,Q6,Q7,Q8,ge_iff_le,gt_iff_lt] at hc9
  ·
   have hgo:=hc9;simp at hgo;have hlt:i < (cntS s 64).1.toNat:=by omega
   have hbad:¬ s1.2=true:=by rw [hgo.2];decide
   clear hgo;have hcr1:=cnt_rng (rdByte s1).2 8 (by decide);have hcl1:=cnt_le (rdByte s1).2 8;have hbl1:=byte_le s1;refine WP.skip (hK7 _ (WP.seq fun K10 hK10=>?_));refine WP.block (wr (uM ?_));refine u_step (g_mcall (s95 s1) hsk rfl fun o12 hb12 hk12=>?_);have hd_12:=dst_keep hd fun t e=>hk12 t (by have:=hq t e;omega);refine u_step (o_bu rfl th83 rfl rfl ?_);refine u_step (g_alloc th83 rfl fun o13 hb13 hk13=>?_);have hd_13:=dst_keep hd_12 fun t e=>hk13 t (by have:=hq t e;omega);have hb12_13:=(hk13 _ (by omega)).trans hb12;refine u_step0 (g_sta rfl rfl th83 rfl hb13 (by first | (simp;done) | (simp [D.leaves,D.width,valCells];done) | decide) fun o14 hb14 hk14=>?_);have hd_14:=dst_keep hd_13 fun t e=>hk14 t (by have:=hq t e;omega);have hb12_14:=(hk14 _ (by omega)).trans hb12_13;refine u_nil (wr (uM ?_));refine u_step (g_mcall (s94 _ 8) hb12_14 rfl fun o16 hb16 hk16=>?_);have hd_16:=dst_keep hd_14 fun t e=>hk16 t (by have:=hq t e;omega);have hb14_16:=(hk16 _ (by omega)).trans hb14;refine ua (u_nil (WP.seq fun K17 hK17=>?_));refine wr (ua (u_nil (WP.block ?_)));refine WP.loopL (ι:=Nat×SB×List Str×SV×Option Nat×(Nat→Option AO)×Nat) (fun ⟨j,s2,ns,c2,q2,o3,nk3⟩=>⟨al [(0,.loc k 0),(3,.d (.int .i64 (cntS s 64).1)),(4,c),(5,.d (.int .i64 i)),(6,.loc nk2 0),(7,.d (.int .i64 (cntS (rdByte s1).2 8).1)),(8,.d (.int .i64 j))],o3,nk3⟩) (fun ⟨j,s2,ns,c2,q2,o3,nk3⟩=>j≤(cntS (rdByte s1).2 8).1.toNat∧nk2+1≤nk3∧s2.1.length≤1048576∧ns.length≤j∧rdTr ((cntS (rdByte s1).2 8).1.toNat - j) s2 ns=rdTr (cntS (rdByte s1).2 8).1.toNat (cntS (rdByte s1).2 8).2 []∧o3 k=some (.box (srcS s2))∧o3 nk2=some (.box [.d (.int .i64 (rdByte s1).1),c2,.d (.int .i64 0),.d (.int .i64 0),.d (.str []),.d .nil,.d .nil,.d (.int .i64 0)])∧dstOf o3 83 8 c=some (q,ds.map encD)∧dstOf o3 9 1 c2=some (q2,ns.map .str)∧(∀ t,q2=some t→nk2+1≤t∧t < nk3)∧∀ t,t < nk∧t≠k→o3 t=o t) (fun ⟨j,s2,ns,c2,q2,o3,nk3⟩=>(cntS (rdByte s1).2 8).1.toNat - j) (fun ⟨j,s2,ns,c2,q2,o3,nk3⟩ hA=>?_) ⟨0,(cntS (rdByte s1).2 8).2,[],.d .nil,none,o16,(nk2+1)⟩ ?_ ?_
   ·
    obtain ⟨hlej,hnkj,hslj,hnlj,heqj,hskj,hobj,hdj,hd4,hq4,hfrj⟩:=hA;refine WP.seq fun K19 hK19=>?_;refine wr (um (um (ub (um ?_))));apply gT
    ·rfl
    ·intro hg;refine o_moveV (v:=.loc _ _) rfl ⟨rfl,rfl,rfl⟩
    apply gT
    ·rfl
    ·intro hg;try simp only [hg,ct,Bt]
     refine o_nc rfl hskj ⟨rfl,rfl,rfl⟩
    apply gT
    ·rfl
    ·intro hg;try simp only [hg,ct,Bt]
     exact pf th63 th4 hskj
    apply gT
    ·rfl
    ·intro hg;try simp only [hg,ct,Bt]
     exact pl th4 hskj
    apply gT
    ·rfl
    ·intro hg;try simp only [hg,ct,Bt]
     exact pN
    refine uA ?_;refine u_nil ?_;refine wc (fun hc21=>?_) (fun hc21=>?_) <;> try simp only [Q0,Q1,Q2,Q3,Q4,Q5,Q6,Q7,Q8,ge_iff_le,gt_iff_lt] at hc21
    ·
     have hgo:=hc21;simp at hgo;have hltj:j < (cntS (rdByte s1).2 8).1.toNat:=by omega
     have hbadj:¬ s2.2=true:=by rw [hgo.2];decide
     clear hgo;refine WP.skip (hK19 _ (WP.seq fun K22 hK22=>?_));refine WP.block ?_;refine WP.dr3 [.q 0 1,.q 0 1,.q 0 0,.w 0,.q 1 1,.w 1,.q 2 2,.w 2] [3,5,7] nk3 (nk3+1) (nk3+1) tabOk (by kernel_rfl) rfl (by kernel_rfl) (by kernel_rfl) ?_;apply Exists.intro;apply Exists.intro;apply Exists.intro;refine e_step2 rfl rfl (o_fa_loc rfl th83 rfl rfl th22 (by decide) hobj ⟨rfl,rfl,rfl⟩) ?_ ?_;rotate_left;refine e_step2 rfl rfl (o_ld_locV rfl th22 rfl hobj rfl ⟨rfl,rfl,rfl⟩) ?_ ?_;rotate_left;refine e_step rfl (o_moveV (v:=.loc _ _) rfl ⟨rfl,rfl,rfl⟩) ?_;refine e_w rfl rfl (w_mcall (s96 s2 32 (by omega)) hskj rfl ⟨rfl,rfl,rfl⟩) ?_;refine e_step rfl (o_bs rfl th22 rfl th9 rfl rfl (by decide) rfl (by decide) (by decide) ⟨rfl,rfl,rfl⟩) ?_;refine e_w rfl rfl (w_apD rfl th22 rfl th9 rfl rfl (by decide) rfl (dst_keep hd4 fun t e=>(by have:=hq4 t e;exact upd_ne _ _ (by omega))) (by simp only [List.length_map,List.length_cons,List.length_nil];omega) (by simp only [List.length_map,List.length_cons,List.length_nil];omega) ⟨rfl,rfl,rfl⟩) ?_;refine e_step rfl (o_fa_loc rfl th83 rfl rfl th22 (by decide) (((upd_ne _ _ (by omega)).trans (killo_ne (fun e=>by have:=hq4 _ e;omega))).trans ((upd_ne _ _ (by omega)).trans hobj)) ⟨rfl,rfl,rfl⟩) ?_;refine e_w0 rfl rfl (w_stV rfl rfl (upd_same _ _ _) th22 rfl (((upd_ne _ _ (by omega)).trans (killo_ne (fun e=>by have:=hq4 _ e;omega))).trans ((upd_ne _ _ (by omega)).trans hobj)) (by simp) ⟨rfl,rfl,rfl⟩) ?_;refine e_nil rfl fun o26 ho26=>?_;have hdC_26:=dst_keep (o':=o26) hdj fun t e=>(by have:=hq t e;exact (ho26 t).trans ((upd_ne _ _ (by omega)).trans (((upd_ne _ _ (by omega)).trans (killo_ne (fun e=>by have:=hq4 _ e;omega))).trans (upd_ne _ _ (by omega)))));have hbM_26:=(ho26 _).trans ((upd_ne _ _ (by omega)).trans (((upd_ne _ _ (by omega)).trans (killo_ne (fun e=>by have:=hq4 _ e;omega))).trans (upd_same _ _ _)));have hbr24_26:=(ho26 _).trans ((upd_ne _ _ (by omega)).trans (upd_same _ _ _));have hbB_26:=(ho26 _).trans (upd_same _ _ _);have hk26:∀ t,t < nk∧t≠k→o26 t=o3 t:=fun t ht=>(ho26 t).trans ((upd_ne _ _ (by omega)).trans (((upd_ne _ _ (by omega)).trans (killo_ne (fun e=>by have:=hq4 _ e;omega))).trans (upd_ne _ _ (by omega))))
     ·
      refine hK22 _ (WP.reg tabOk rfl ?_);refine um (ub (ua (u_nil ?_)));refine ⟨⟨j+1,(txtS s2 32).2,ns++[(txtS s2 32).1],.row _,some _,o26,(nk3+1)⟩,⟨by omega,by omega,by have:=txt_le s2 32;omega,by simp;omega,?_,hbM_26,hbB_26,hdC_26,(map_snoc ns _).symm ▸ dst_row hbr24_26,fun t e=>by injection e with e;omega,(fun t ht=>(hk26 t (by omega)).trans ((hfrj t (by omega))))⟩,by simp only;omega,Le.al ?_⟩
      ·rw [← heqj,show (cntS (rdByte s1).2 8).1.toNat - j=((cntS (rdByte s1).2 8).1.toNat - (j+1))+1 by omega];simp only [rdTr];rw [if_neg hbadj]
      ·simp only [List.forall_mem_cons];exact ⟨rfl,rfl,rfl,rfl,rfl,rfl,cnt (by omega),by simp⟩
     exact o_fa_loc rfl th83 rfl rfl th22 (by decide) ((upd_ne _ _ (by omega)).trans hobj) ⟨rfl,rfl,rfl⟩;exact o_ld_locV rfl th22 rfl ((upd_ne _ _ (by omega)).trans hobj) rfl ⟨rfl,rfl,rfl⟩
    ·
     have hfinj:rdTr (cntS (rdByte s1).2 8).1.toNat (cntS (rdByte s1).2 8).2 []=(ns,s2):=by
      rw [← heqj];by_cases hz:s2.2=true
      ·exact rdTr_bad hz
      ·have hge:(cntS (rdByte s1).2 8).1.toNat - j=0:=by (have hgo:=hc21;simp [hz] at hgo;omega)
       rw [hge];rfl
     have hrd:rdDr s1=spoilD (rdD3 rdAllR (rdByte s1).1 ns s2):=by unfold rdDr;rw [hfinj]
     refine WP.exit ?_;refine hK17 _ ?_;refine WP.seq fun K27 hK27=>?_;refine WP.frzC (pre:=[.d (.int .i64 (rdByte s1).1)]) (post:=[.d (.int .i64 0),.d (.int .i64 0),.d (.str []),.d .nil,.d .nil,.d (.int .i64 0)]) [(0,.loc k 0),(3,.d (.int .i64 (cntS s 64).1)),(4,c),(5,.d (.int .i64 i)),(6,.loc nk2 0)] nk2 hobj hd4 (Nat.le_refl _) (fun t e=>⟨rfl,rfl⟩) (fun t e=>by simp only [List.forall_mem_cons];exact ⟨rfl,rfl,(show SV.frz t (.sl 1 (ns.map .str)) c=c from dst_frz hdj (fun e2=>by have:=hq t e2;have:=hq4 t e;omega)),rfl,rfl,by simp⟩) (fun e=>by simp only [List.forall_mem_cons];exact ⟨rfl,rfl,rfl,rfl,rfl,by simp⟩) fun o9 hB9 hk9 hm9=>?_;have hF9:∀ t,t < nk2→o9 t=o3 t:=fun t ht=>hk9 t ht (fun h=>by have:=hq4 t h;omega);have hM9:=(hF9 k (by omega)).trans hskj;have hC9:=dst_keep (o':=o9) hdj fun t e=>hF9 t (by have:=hq t e;omega);refine WP.leB [.d (.int .i64 (rdByte s1).1),.d (.sl 1 (ns.map .str)),.d (.int .i64 0),.d (.int .i64 0),.d (.str []),.d (.sl 5 []),.d (.sl 1 []),.d (.int .i64 0)] hB9 ⟨D.le_refl _,D.le_refl _,D.le_refl _,D.le_refl _,D.le_refl _,rfl,rfl,D.le_refl _,trivial⟩ fun o8 hB8 hk8=>?_;have hF8:∀ t,t < nk2→o8 t=o9 t:=fun t ht=>hk8 t (by omega);have hM8:=(hF8 k (by omega)).trans hM9;have hC8:=dst_keep (o':=o8) hC9 fun t e=>hF8 t (by have:=hq t e;omega);refine wr ?_;refine uf th83 th3 hB8 ?_;refine ul th3 hB8 ?_;refine u_nil ?_;refine WP.block ?_;refine wr ?_;refine ub ?_;refine ua ?_;refine u_nil ?_;refine wc (fun hc30=>?_) (fun hc30=>?_) <;> try simp only [Q0,Q1,Q2,Q3,Q4,Q5,Q6,Q7,Q8,ge_iff_le,gt_iff_lt] at hc30
     ·
      have g1:(rdByte s1).1=1:=by simpa using hc30
      have hd3:rdD3 rdAllR (rdByte s1).1 ns s2=((⟨(rdByte s1).1,ns,(rdAllR s2).1,0⟩:Dlt),(rdAllR s2).2):=if_pos g1;have hok:okD (⟨(rdByte s1).1,ns,(rdAllR s2).1,0⟩:Dlt):=⟨rdAllR_rng s2,rdAllR_sz s2 (by omega)⟩;refine WP.reg tabOk rfl ?_;refine uM ?_;refine u_step (g_mcall (s97 s2 (by omega)) hM8 rfl fun o31 hb31 hk31=>?_);have hB8_31:=(hk31 _ (by omega)).trans hB8;have hC8_31:=dst_keep hC8 fun t e=>hk31 t (by have:=hq t e;omega);refine uf th83 th27 hB8_31 ?_;refine u_step0 (g_sta rfl (congrArg SV.d (encV_eq _)) th27 rfl hB8_31 (by simp [valCells]) fun o32 hb32 hk32=>?_);have hC8_32:=dst_keep hC8_31 fun t e=>hk32 t (by have:=hq t e;omega);have hb31_32:=(hk32 _ (by omega)).trans hb31;refine u_nil ?_;refine hK27 _ ?_;refine WP.seq fun K33 hK33=>?_;refine wr ?_;refine ug th83 hb32 ?_;refine u_step (o_pcall (s79 _ hok) rfl ?_);refine uN ?_;refine u_nil ?_;refine wc (fun hc35=>?_) (fun hc35=>?_) <;> try simp only [Q0,Q1,Q2,Q3,Q4,Q5,Q6,Q7,Q8,ge_iff_le,gt_iff_lt] at hc35
      ·
       have hm:¬ mayD (rdD3 rdAllR (rdByte s1).1 ns s2).1=true:=by rw [hd3];simpa using hc35
       have hr:=hrd.trans (spoil_no hm);rw [hd3] at hr;refine WP.reg tabOk rfl ?_;refine uM ?_;refine u_step (o_nc rfl hb31_32 ?_);refine uf th63 th4 hb31_32 ?_;refine u_step0 (g_st rfl rfl rfl th4 rfl hb31_32 (by first | (simp;done) | (simp [D.leaves,D.width];done) | decide) fun o36 hb36 hk36=>?_);have hC8_36:=dst_keep hC8_32 fun t e=>hk36 t (by have:=hq t e;omega);have hb32_36:=(hk36 _ (by omega)).trans hb32;refine u_nil (hK33 _ (WP.reg tabOk rfl ?_));refine u_step (o_moveV (v:=c) rfl ?_);refine ug th83 hb32_36 ?_
       refine u_step (o_bs rfl th28 rfl th83 rfl rfl (by decide) rfl (by decide) (by decide) ?_)
       refine u_step (g_apD2 rfl th28 rfl th83 rfl rfl (by decide) rfl hC8_36 (by simp only [List.length_map,List.length_cons,List.length_nil];omega) (by simp only [List.length_map,List.length_cons,List.length_nil];omega) fun o37 hb37 hk37=>?_);have hb32_37:=(hk37 _ (by omega) (fun e=>by have:=hq _ e.symm;omega)).trans hb32_36;have hb36_37:=(hk37 _ (by omega) (fun e=>by have:=hq _ e.symm;omega)).trans hb36;refine uS (u_nil (hK10 _ (WP.reg tabOk rfl ?_)));refine um (ub (ua (u_nil ?_)));refine ⟨⟨i+1,(rdDr s1).2,ds++[(rdDr s1).1],.row _,some _,o37,(nk3+1)⟩,⟨by omega,by omega,by have:=rdDr_le s1;omega,by simp;omega,?_,(by rw [hr];exact hb36_37),(by rw [hr,mapD_snoc];exact dst_row hb37),fun t e=>by injection e with e;omega,(fun t ht=>(hk37 t (by omega) (fun e=>by have:=hq _ e.symm;omega)).trans ((hk36 t (by omega)).trans ((hk32 t (by omega)).trans ((hk31 t (by omega)).trans ((hF8 t (by omega)).trans ((hF9 t (by omega)).trans ((hfrj t (by omega)))))))))⟩,by simp only;omega,Le.al ?_⟩
       ·rw [← heq,show (cntS s 64).1.toNat - i=((cntS s 64).1.toNat - (i+1))+1 by omega];simp only [rdDlr];rw [if_neg hbad]
       ·simp only [List.forall_mem_cons];exact ⟨rfl,rfl,rfl,cnt (by omega),by simp⟩
      ·
       have hm:mayD (rdD3 rdAllR (rdByte s1).1 ns s2).1=true:=by rw [hd3];simpa using hc35
       have hr:=hrd.trans (spoil_yes hm);rw [hd3] at hr;refine WP.skip (hK33 _ (WP.reg tabOk rfl ?_));refine u_step (o_moveV (v:=c) rfl ?_);refine ug th83 hb32 ?_
       refine u_step (o_bs rfl th28 rfl th83 rfl rfl (by decide) rfl (by decide) (by decide) ?_)
       refine u_step (g_apD2 rfl th28 rfl th83 rfl rfl (by decide) rfl hC8_32 (by simp only [List.length_map,List.length_cons,List.length_nil];omega) (by simp only [List.length_map,List.length_cons,List.length_nil];omega) fun o38 hb38 hk38=>?_);have hb31_38:=(hk38 _ (by omega) (fun e=>by have:=hq _ e.symm;omega)).trans hb31_32;have hb32_38:=(hk38 _ (by omega) (fun e=>by have:=hq _ e.symm;omega)).trans hb32;refine uS (u_nil (hK10 _ (WP.reg tabOk rfl ?_)));refine um (ub (ua (u_nil ?_)));refine ⟨⟨i+1,(rdDr s1).2,ds++[(rdDr s1).1],.row _,some _,o38,(nk3+1)⟩,⟨by omega,by omega,by have:=rdDr_le s1;omega,by simp;omega,?_,(by rw [hr];exact hb31_38),(by rw [hr,mapD_snoc];exact dst_row hb38),fun t e=>by injection e with e;omega,(fun t ht=>(hk38 t (by omega) (fun e=>by have:=hq _ e.symm;omega)).trans ((hk32 t (by omega)).trans ((hk31 t (by omega)).trans ((hF8 t (by omega)).trans ((hF9 t (by omega)).trans ((hfrj t (by omega))))))))⟩,by simp only;omega,Le.al ?_⟩
       ·rw [← heq,show (cntS s 64).1.toNat - i=((cntS s 64).1.toNat - (i+1))+1 by omega];simp only [rdDlr];rw [if_neg hbad]
       ·simp only [List.forall_mem_cons];exact ⟨rfl,rfl,rfl,cnt (by omega),by simp⟩
     ·
      have g1:¬ (rdByte s1).1=1:=by simpa using hc30
      refine wr ?_;refine ub ?_;refine ua ?_;refine u_nil ?_;refine wc (fun hc40=>?_) (fun hc40=>?_) <;> try simp only [Q0,Q1,Q2,Q3,Q4,Q5,Q6,Q7,Q8,ge_iff_le,gt_iff_lt] at hc40
      ·
       have g3:(rdByte s1).1=3:=by simpa using hc40
       have hd3:rdD3 rdAllR (rdByte s1).1 ns s2=((⟨(rdByte s1).1,ns,.mk 0 0 [] [] [],(cntS s2 999).1⟩:Dlt),(cntS s2 999).2):=(if_neg g1).trans (if_pos g3);have hok:okD (⟨(rdByte s1).1,ns,.mk 0 0 [] [] [],(cntS s2 999).1⟩:Dlt):=⟨⟨by decide,trivial⟩,by simp [szV,szVs,szN]⟩;refine WP.reg tabOk rfl ?_;refine uM ?_;refine u_step (g_mcall (s94 s2 999) hM8 rfl fun o41 hb41 hk41=>?_);have hB8_41:=(hk41 _ (by omega)).trans hB8;have hC8_41:=dst_keep hC8 fun t e=>hk41 t (by have:=hq t e;omega);refine uf th83 th3 hB8_41 ?_;refine u_step0 (g_st rfl rfl rfl th3 rfl hB8_41 (by first | (simp;done) | (simp [D.leaves,D.width];done) | decide) fun o42 hb42 hk42=>?_);have hC8_42:=dst_keep hC8_41 fun t e=>hk42 t (by have:=hq t e;omega);have hb41_42:=(hk42 _ (by omega)).trans hb41;refine u_nil ?_;refine hK27 _ ?_;refine WP.seq fun K43 hK43=>?_;refine wr ?_;refine ug th83 hb42 ?_;refine u_step (o_pcall (s79 _ hok) rfl ?_);refine uN ?_;refine u_nil ?_;refine wc (fun hc45=>?_) (fun hc45=>?_) <;> try simp only [Q0,Q1,Q2,Q3,Q4,Q5,Q6,Q7,Q8,ge_iff_le,gt_iff_lt] at hc45
       ·
        have hm:¬ mayD (rdD3 rdAllR (rdByte s1).1 ns s2).1=true:=by rw [hd3];simpa using hc45
        have hr:=hrd.trans (spoil_no hm);rw [hd3] at hr;refine WP.reg tabOk rfl ?_;refine uM ?_;refine u_step (o_nc rfl hb41_42 ?_);refine uf th63 th4 hb41_42 ?_;refine u_step0 (g_st rfl rfl rfl th4 rfl hb41_42 (by first | (simp;done) | (simp [D.leaves,D.width];done) | decide) fun o46 hb46 hk46=>?_);have hC8_46:=dst_keep hC8_42 fun t e=>hk46 t (by have:=hq t e;omega);have hb42_46:=(hk46 _ (by omega)).trans hb42;refine u_nil (hK43 _ (WP.reg tabOk rfl ?_));refine u_step (o_moveV (v:=c) rfl ?_);refine ug th83 hb42_46 ?_
        refine u_step (o_bs rfl th28 rfl th83 rfl rfl (by decide) rfl (by decide) (by decide) ?_)
        refine u_step (g_apD2 rfl th28 rfl th83 rfl rfl (by decide) rfl hC8_46 (by simp only [List.length_map,List.length_cons,List.length_nil];omega) (by simp only [List.length_map,List.length_cons,List.length_nil];omega) fun o47 hb47 hk47=>?_);have hb42_47:=(hk47 _ (by omega) (fun e=>by have:=hq _ e.symm;omega)).trans hb42_46;have hb46_47:=(hk47 _ (by omega) (fun e=>by have:=hq _ e.symm;omega)).trans hb46;refine uS (u_nil (hK10 _ (WP.reg tabOk rfl ?_)));refine um (ub (ua (u_nil ?_)));refine ⟨⟨i+1,(rdDr s1).2,ds++[(rdDr s1).1],.row _,some _,o47,(nk3+1)⟩,⟨by omega,by omega,by have:=rdDr_le s1;omega,by simp;omega,?_,(by rw [hr];exact hb46_47),(by rw [hr,mapD_snoc];exact dst_row hb47),fun t e=>by injection e with e;omega,(fun t ht=>(hk47 t (by omega) (fun e=>by have:=hq _ e.symm;omega)).trans ((hk46 t (by omega)).trans ((hk42 t (by omega)).trans ((hk41 t (by omega)).trans ((hF8 t (by omega)).trans ((hF9 t (by omega)).trans ((hfrj t (by omega)))))))))⟩,by simp only;omega,Le.al ?_⟩
        ·rw [← heq,show (cntS s 64).1.toNat - i=((cntS s 64).1.toNat - (i+1))+1 by omega];simp only [rdDlr];rw [if_neg hbad]
        ·simp only [List.forall_mem_cons];exact ⟨rfl,rfl,rfl,cnt (by omega),by simp⟩
       ·
        have hm:mayD (rdD3 rdAllR (rdByte s1).1 ns s2).1=true:=by rw [hd3];simpa using hc45
        have hr:=hrd.trans (spoil_yes hm);rw [hd3] at hr;refine WP.skip (hK43 _ (WP.reg tabOk rfl ?_));refine u_step (o_moveV (v:=c) rfl ?_);refine ug th83 hb42 ?_
        refine u_step (o_bs rfl th28 rfl th83 rfl rfl (by decide) rfl (by decide) (by decide) ?_)
        refine u_step (g_apD2 rfl th28 rfl th83 rfl rfl (by decide) rfl hC8_42 (by simp only [List.length_map,List.length_cons,List.length_nil];omega) (by simp only [List.length_map,List.length_cons,List.length_nil];omega) fun o48 hb48 hk48=>?_);have hb41_48:=(hk48 _ (by omega) (fun e=>by have:=hq _ e.symm;omega)).trans hb41_42;have hb42_48:=(hk48 _ (by omega) (fun e=>by have:=hq _ e.symm;omega)).trans hb42;refine uS (u_nil (hK10 _ (WP.reg tabOk rfl ?_)));refine um (ub (ua (u_nil ?_)));refine ⟨⟨i+1,(rdDr s1).2,ds++[(rdDr s1).1],.row _,some _,o48,(nk3+1)⟩,⟨by omega,by omega,by have:=rdDr_le s1;omega,by simp;omega,?_,(by rw [hr];exact hb41_48),(by rw [hr,mapD_snoc];exact dst_row hb48),fun t e=>by injection e with e;omega,(fun t ht=>(hk48 t (by omega) (fun e=>by have:=hq _ e.symm;omega)).trans ((hk42 t (by omega)).trans ((hk41 t (by omega)).trans ((hF8 t (by omega)).trans ((hF9 t (by omega)).trans ((hfrj t (by omega))))))))⟩,by simp only;omega,Le.al ?_⟩
        ·rw [← heq,show (cntS s 64).1.toNat - i=((cntS s 64).1.toNat - (i+1))+1 by omega];simp only [rdDlr];rw [if_neg hbad]
        ·simp only [List.forall_mem_cons];exact ⟨rfl,rfl,rfl,cnt (by omega),by simp⟩
      ·
       have g3:¬ (rdByte s1).1=3:=by simpa using hc40
       have hd3:rdD3 rdAllR (rdByte s1).1 ns s2=((⟨(rdByte s1).1,ns,.mk 0 0 [] [] [],0⟩:Dlt),s2):=(if_neg g1).trans (if_neg g3);have hok:okD (⟨(rdByte s1).1,ns,.mk 0 0 [] [] [],0⟩:Dlt):=⟨⟨by decide,trivial⟩,by simp [szV,szVs,szN]⟩;refine WP.skip ?_;refine hK27 _ ?_;refine WP.seq fun K49 hK49=>?_;refine wr ?_;refine ug th83 hB8 ?_;refine u_step (o_pcall (s79 _ hok) rfl ?_);refine uN ?_;refine u_nil ?_;refine wc (fun hc51=>?_) (fun hc51=>?_) <;> try simp only [Q0,Q1,Q2,Q3,Q4,Q5,Q6,Q7,Q8,ge_iff_le,gt_iff_lt] at hc51
       ·
        have hm:¬ mayD (rdD3 rdAllR (rdByte s1).1 ns s2).1=true:=by rw [hd3];simpa using hc51
        have hr:=hrd.trans (spoil_no hm);rw [hd3] at hr;refine WP.reg tabOk rfl ?_;refine uM ?_;refine u_step (o_nc rfl hM8 ?_);refine uf th63 th4 hM8 ?_;refine u_step0 (g_st rfl rfl rfl th4 rfl hM8 (by first | (simp;done) | (simp [D.leaves,D.width];done) | decide) fun o52 hb52 hk52=>?_);have hB8_52:=(hk52 _ (by omega)).trans hB8;have hC8_52:=dst_keep hC8 fun t e=>hk52 t (by have:=hq t e;omega);refine u_nil (hK49 _ (WP.reg tabOk rfl ?_));refine u_step (o_moveV (v:=c) rfl ?_);refine ug th83 hB8_52 ?_
        refine u_step (o_bs rfl th28 rfl th83 rfl rfl (by decide) rfl (by decide) (by decide) ?_)
        refine u_step (g_apD2 rfl th28 rfl th83 rfl rfl (by decide) rfl hC8_52 (by simp only [List.length_map,List.length_cons,List.length_nil];omega) (by simp only [List.length_map,List.length_cons,List.length_nil];omega) fun o53 hb53 hk53=>?_);have hB8_53:=(hk53 _ (by omega) (fun e=>by have:=hq _ e.symm;omega)).trans hB8_52;have hb52_53:=(hk53 _ (by omega) (fun e=>by have:=hq _ e.symm;omega)).trans hb52;refine uS (u_nil (hK10 _ (WP.reg tabOk rfl ?_)));refine um (ub (ua (u_nil ?_)));refine ⟨⟨i+1,(rdDr s1).2,ds++[(rdDr s1).1],.row _,some _,o53,(nk3+1)⟩,⟨by omega,by omega,by have:=rdDr_le s1;omega,by simp;omega,?_,(by rw [hr];exact hb52_53),(by rw [hr,mapD_snoc];exact dst_row hb53),fun t e=>by injection e with e;omega,(fun t ht=>(hk53 t (by omega) (fun e=>by have:=hq _ e.symm;omega)).trans ((hk52 t (by omega)).trans ((hF8 t (by omega)).trans ((hF9 t (by omega)).trans ((hfrj t (by omega)))))))⟩,by simp only;omega,Le.al ?_⟩
        ·rw [← heq,show (cntS s 64).1.toNat - i=((cntS s 64).1.toNat - (i+1))+1 by omega];simp only [rdDlr];rw [if_neg hbad]
        ·simp only [List.forall_mem_cons];exact ⟨rfl,rfl,rfl,cnt (by omega),by simp⟩
       ·
        have hm:mayD (rdD3 rdAllR (rdByte s1).1 ns s2).1=true:=by rw [hd3];simpa using hc51
        have hr:=hrd.trans (spoil_yes hm);rw [hd3] at hr;refine WP.skip (hK49 _ (WP.reg tabOk rfl ?_));refine u_step (o_moveV (v:=c) rfl ?_);refine ug th83 hB8 ?_
        refine u_step (o_bs rfl th28 rfl th83 rfl rfl (by decide) rfl (by decide) (by decide) ?_)
        refine u_step (g_apD2 rfl th28 rfl th83 rfl rfl (by decide) rfl hC8 (by simp only [List.length_map,List.length_cons,List.length_nil];omega) (by simp only [List.length_map,List.length_cons,List.length_nil];omega) fun o54 hb54 hk54=>?_);have hM8_54:=(hk54 _ (by omega) (fun e=>by have:=hq _ e.symm;omega)).trans hM8;have hB8_54:=(hk54 _ (by omega) (fun e=>by have:=hq _ e.symm;omega)).trans hB8;refine uS (u_nil (hK10 _ (WP.reg tabOk rfl ?_)));refine um (ub (ua (u_nil ?_)));refine ⟨⟨i+1,(rdDr s1).2,ds++[(rdDr s1).1],.row _,some _,o54,(nk3+1)⟩,⟨by omega,by omega,by have:=rdDr_le s1;omega,by simp;omega,?_,(by rw [hr];exact hM8_54),(by rw [hr,mapD_snoc];exact dst_row hb54),fun t e=>by injection e with e;omega,(fun t ht=>(hk54 t (by omega) (fun e=>by have:=hq _ e.symm;omega)).trans ((hF8 t (by omega)).trans ((hF9 t (by omega)).trans ((hfrj t (by omega))))))⟩,by simp only;omega,Le.al ?_⟩
        ·rw [← heq,show (cntS s 64).1.toNat - i=((cntS s 64).1.toNat - (i+1))+1 by omega];simp only [rdDlr];rw [if_neg hbad]
        ·simp only [List.forall_mem_cons];exact ⟨rfl,rfl,rfl,cnt (by omega),by simp⟩
   ·
    refine ⟨by omega,by omega,by omega,by simp,rfl,hb16,hb14_16,hd_16,rfl,by simp,(fun t ht=>(hk16 t (by omega)).trans ((hk14 t (by omega)).trans ((hk13 t (by omega)).trans ((hk12 t (by omega)).trans ((hfr t (by omega)))))))⟩
   ·
    refine Le.al ?_;simp only [List.forall_mem_cons];exact ⟨rfl,rfl,rfl,rfl,rfl,rfl,rfl,by simp⟩
  ·
   have hfin:rdDlr (cntS s 64).1.toNat (cntS s 64).2 []=(ds,s1):=by
    rw [← heq];by_cases hz:s1.2=true
    ·exact rdDlr_bad hz
    ·have hge:(cntS s 64).1.toNat - i=0:=by (have hgo:=hc9;simp [hz] at hgo;omega)
     rw [hge];rfl
   have hrd:rdDsR s=rdDq (ds,s1):=by unfold rdDsR;rw [hfin]
   refine WP.exit ?_;refine hK5 _ ?_;refine WP.seq fun K55 hK55=>?_;refine wr ?_;refine uM ?_;refine u_step (o_nc rfl hsk ?_);refine uf th63 th4 hsk ?_;refine ul th4 hsk ?_;refine u_nil ?_;refine wc (fun hc57=>?_) (fun hc57=>?_) <;> try simp only [Q0,Q1,Q2,Q3,Q4,Q5,Q6,Q7,Q8,ge_iff_le,gt_iff_lt] at hc57
   ·
    have hr:rdDsR s=([],s1):=hrd.trans (rdDq_no (by simpa using hc57));refine wr (ua (u_nil (WP.ret ?_)));refine retMW_ok rfl ?_ (by omega) (by rw [hr];exact hsk) (fun t ht=>(hfr t (by omega)));rw [hr];exact rfl
   ·
    have hr:rdDsR s=(ds,s1):=hrd.trans (rdDq_ok (by simpa using hc57));refine WP.skip (hK55 _ ?_);refine WP.frzS (fun y=>[(0,.loc k 0),(4,.d y)]) nk hd (fun t h1 h2=>by subst h2;simp only [List.forall_mem_cons];exact ⟨rfl,(show SV.frz t (.sl 8 (ds.map encD)) (.row t)=_ from if_pos rfl),by simp⟩) (fun h2=>by subst h2;simp only [List.forall_mem_cons];exact ⟨rfl,rfl,by simp⟩) fun y o9 hy hk9=>?_;have hF9:∀ t,t < nk→o9 t=o2 t:=fun t ht=>hk9 t ht (fun h=>by have:=hq t h;omega);have hM9:=(hF9 _ hkn).trans hsk;refine wr (um (ua (u_nil (WP.ret ?_))));refine retMW_ok rfl ?_ (by omega) (by rw [hr];exact hM9) (fun t ht=>(hF9 t (by omega)).trans ((hfr t (by omega))));rw [hr];exact hy
 ·
  refine ⟨by omega,by omega,by omega,by simp,rfl,hb3,rfl,by simp,(fun t ht=>(hk3 t (by omega)))⟩
 ·
  refine Le.al ?_;simp only [List.forall_mem_cons];exact ⟨rfl,rfl,rfl,rfl,by simp⟩
theorem rdTs_bad:∀ (n:Nat) {s:SB} (ns:List Str),s.2=true→(rdTs n s ns).2.2=true
 | 0,s,ns,h=>h
 | n+1,s,ns,h=>rdTs_bad n _ (by rw [txt_bad2 h])
theorem rdTs_q:∀ (n:Nat) (s:SB) (ns:List Str),(rdTs n s ns).2.2=(rdTr n s ns).2.2∧((rdTs n s ns).2.2=false→rdTs n s ns=rdTr n s ns)
 | 0,s,ns=>⟨rfl,fun _=>rfl⟩
 | n+1,s,ns=>by
  by_cases hb:s.2=true
  ·have h1:=rdTs_bad (n+1) ns hb;rw [rdTr_bad hb];exact ⟨h1.trans hb.symm,fun e=>by rw [h1] at e;cases e⟩
  ·simp only [rdTs,rdTr];rw [if_neg hb];exact rdTs_q n _ _
theorem cnt_bad3 {s:SB} {m:Int} (h:s.2=true):(cntS s m).2.2=true:=by rw [cnt_bad2 h]
theorem rdAllB {s:SB} (h:s.2=true):(rdAll s).2.2=true:=by rw [rdAll_bad h]
theorem rdAllRB {s:SB} (h:s.2=true):(rdAllR s).2.2=true:=by rw [rdAllR_bad h];exact h
theorem rdD3_bad {rv:SB→Val×SB} (hv:∀ s,s.2=true→(rv s).2.2=true) {k:Int} {ns:List Str} {s:SB} (h:s.2=true):(rdD3 rv k ns s).2.2=true:=by
 unfold rdD3;split
 ·exact hv s h
 ·split
  ·exact cnt_bad3 h
  ·exact h
theorem spoil_bad {p:Dlt×SB} (h:p.2.2=true):(spoilD p).2.2=true:=by unfold spoilD;simp only;split <;> simp [h]
theorem spoil_q {d:Dlt} {a b:SB} (h:SBq a b):(spoilD (d,a)).1=(spoilD (d,b)).1∧SBq (spoilD (d,a)).2 (spoilD (d,b)).2:=by
 refine ⟨rfl,?_⟩;unfold spoilD;simp only;split
 ·exact h
 ·exact SBq.bad rfl rfl
theorem rdD3_q (k:Int) (ns:List Str) (s:SB):∃ d a b,rdD3 rdAll k ns s=(d,a)∧rdD3 rdAllR k ns s=(d,b)∧SBq a b:=by
 unfold rdD3;split
 ·have h:=rdAll_q s;exact ⟨_,_,_,rfl,by rw [h.1],h.2⟩
 ·split
  ·exact ⟨_,_,_,rfl,rfl,SBq.refl _⟩
  ·exact ⟨_,_,_,rfl,rfl,SBq.refl _⟩
theorem rdDl_bad {s:SB} (h:s.2=true):(rdDl s).2.2=true:=by
 unfold rdDl;exact spoil_bad (rdD3_bad (fun _=>rdAllB) (rdTs_bad _ _ (cnt_bad3 (byte_bad h))))
theorem rdDl_q (s:SB):(rdDl s).2.2=(rdDr s).2.2∧((rdDl s).2.2=false→rdDl s=rdDr s):=by
 have hp:=rdTs_q (cntS (rdByte s).2 8).1.toNat (cntS (rdByte s).2 8).2 [];cases hz:(rdTs (cntS (rdByte s).2 8).1.toNat (cntS (rdByte s).2 8).2 []).2.2 with
 | true=>
  have h1:(rdDl s).2.2=true:=by unfold rdDl;exact spoil_bad (rdD3_bad (fun _=>rdAllB) hz)
  have h2:(rdDr s).2.2=true:=by unfold rdDr;exact spoil_bad (rdD3_bad (fun _=>rdAllRB) (hp.1 ▸ hz))
  exact ⟨h1.trans h2.symm,fun e=>by rw [h1] at e;cases e⟩
 | false=>
  have he:=hp.2 hz;unfold rdDl rdDr;rw [← he];obtain ⟨d,a,b,h1,h2,h3⟩:=rdD3_q (rdByte s).1 (rdTs (cntS (rdByte s).2 8).1.toNat (cntS (rdByte s).2 8).2 []).1 (rdTs (cntS (rdByte s).2 8).1.toNat (cntS (rdByte s).2 8).2 []).2;rw [h1,h2];have h4:=spoil_q (d:=d) h3;exact ⟨h4.2.1,fun e=>Prod.ext h4.1 (h4.2.2 e)⟩
theorem rdDls_bad:∀ (n:Nat) {s:SB} (ds:List Dlt),s.2=true→(rdDls n s ds).2.2=true
 | 0,s,ds,h=>h
 | n+1,s,ds,h=>rdDls_bad n _ (rdDl_bad h)
theorem rdDls_q:∀ (n:Nat) (s:SB) (ds:List Dlt),(rdDls n s ds).2.2=(rdDlr n s ds).2.2∧((rdDls n s ds).2.2=false→rdDls n s ds=rdDlr n s ds)
 | 0,s,ds=>⟨rfl,fun _=>rfl⟩
 | n+1,s,ds=>by
  by_cases hb:s.2=true
  ·have h1:=rdDls_bad (n+1) ds hb;rw [rdDlr_bad hb];exact ⟨h1.trans hb.symm,fun e=>by rw [h1] at e;cases e⟩
  ·have hq:=rdDl_q s;simp only [rdDls,rdDlr];rw [if_neg hb];cases hz:(rdDl s).2.2 with
   | true=>
    have h1:=rdDls_bad n (if true=true then ds else ds++[(rdDl s).1]) hz;rw [rdDlr_bad (hq.1 ▸ hz)];exact ⟨h1.trans (hq.1 ▸ hz).symm,fun e=>by rw [h1] at e;cases e⟩
   | false=>
    rw [if_neg (by decide),hq.2 hz];exact rdDls_q n _ _
theorem rdDq_q {a b:List Dlt×SB} (h:a.2.2=b.2.2∧(a.2.2=false→a=b)):(rdDq a).1=(rdDq b).1∧SBq (rdDq a).2 (rdDq b).2:=by
 cases hz:a.2.2 with
 | true=>
  rw [rdDq_no hz,rdDq_no (h.1 ▸ hz)];exact ⟨rfl,SBq.bad hz (h.1 ▸ hz)⟩
 | false=>rw [h.2 hz];exact ⟨rfl,SBq.refl _⟩
theorem rdDs_q {a b:SB} (h:SBq a b):(rdDsP a).1=(rdDsR b).1∧SBq (rdDsP a).2 (rdDsR b).2:=by
 rcases h.cases with rfl | ⟨ha,hb⟩
 ·exact rdDq_q (rdDls_q _ _ _)
 ·have h1:=rdDls_bad (cntS a 64).1.toNat [] (cnt_bad3 (m:=64) ha);have h2:(rdDlr (cntS b 64).1.toNat (cntS b 64).2 []).2.2=true:=by rw [rdDlr_bad (cnt_bad3 hb)];exact cnt_bad3 hb
  unfold rdDsP rdDsR;rw [rdDq_no h1,rdDq_no h2];exact ⟨rfl,SBq.bad h1 h2⟩
theorem byte_q {a b:SB} (h:SBq a b):(rdByte a).1=(rdByte b).1∧SBq (rdByte a).2 (rdByte b).2:=by
 rcases h.cases with rfl | ⟨ha,hb⟩
 ·exact ⟨rfl,SBq.refl _⟩
 ·rw [rdByte_no (.inl ha),rdByte_no (.inl hb)];exact ⟨rfl,SBq.bad rfl rfl⟩
theorem cnt_q {a b:SB} {m:Int} (h:SBq a b):(cntS a m).1=(cntS b m).1∧SBq (cntS a m).2 (cntS b m).2:=by
 rcases h.cases with rfl | ⟨ha,hb⟩
 ·exact ⟨rfl,SBq.refl _⟩
 ·rw [cnt_bad2 ha,cnt_bad2 hb];exact ⟨rfl,SBq.bad rfl rfl⟩
theorem txt_q {a b:SB} {m:Int} (h:SBq a b):(txtS a m).1=(txtS b m).1∧SBq (txtS a m).2 (txtS b m).2:=by
 rcases h.cases with rfl | ⟨ha,hb⟩
 ·exact ⟨rfl,SBq.refl _⟩
 ·rw [txt_bad2 ha,txt_bad2 hb];exact ⟨rfl,SBq.bad rfl rfl⟩
theorem all_q {a b:SB} (h:SBq a b):(rdAll a).1=(rdAllR b).1∧SBq (rdAll a).2 (rdAllR b).2:=by
 rcases h.cases with rfl | ⟨ha,hb⟩
 ·exact rdAll_q _
 ·rw [rdAll_bad ha,rdAllR_bad hb];exact ⟨rfl,SBq.bad rfl hb⟩
theorem PSpec.wk {P:Program} {f:FuncId} {us:List SV} {x x':D} (h:PSpec P f us (.d x')) (hx:D.le x' x):PSpec P f us (.d x):=fun o nk=>Spec.weak (Q:=fun o' nk'=>o'=o∧nk'=nk) ((h o nk).mono fun r o' nk' h=>⟨⟨x',h.1,hx⟩,h.2⟩)
theorem fn36:FnOk Tryz.prog 36 6 [2] (bodyOf Tryz.f36):=⟨Tryz.f36,Tryz.func36,by kernel_rfl,by decide,by kernel_rfl,by kernel_rfl⟩
theorem s36 (b:List UInt8) (o:Nat→Option AO) (nk:Nat):Spec Tryz.prog 36 [.d (.sl 1 (b.map encB))] o nk (fun r' o' nk'=>r'=.loc nk 0∧o'=upd o nk (some (.box (srcS (b,false))))∧nk'=nk+1):=by
 refine Spec.of_body fn36 (by simp) ?_;refine wr (ua (u_nil (wr (um ?_))));refine u_step (o_bu rfl th102 rfl rfl ?_);refine u_step (g_box rfl fun o3 hb3 hk3=>?_);refine uT (u_nil (WP.ret ?_));refine ⟨rfl,funext fun t=>?_,rfl⟩;by_cases ht:t=nk
 ·subst ht;rw [upd_same];exact hb3
 ·rw [upd_ne _ _ ht];exact (show ∀ t:Nat,t≠nk→o3 t=o t from (fun t ht=>(hk3 t (by omega)))) t ht
theorem any_bad (s:Str):s.any badC=decide ((36:UInt8)∈s∨(0:UInt8)∈s):=by
 rw [Bool.eq_iff_iff];simp only [List.any_eq_true,decide_eq_true_eq,badC];constructor
 ·rintro ⟨x,hx,rfl | rfl⟩
  ·exact .inl hx
  ·exact .inr hx
 ·rintro (h | h)
  ·exact ⟨_,h,.inl rfl⟩
  ·exact ⟨_,h,.inr rfl⟩
theorem badC_get {s:Str} {i:Nat} (h:i < s.length):decide ((s[((i:Int)).toNat]?.getD 0).toNat=36∨(s[((i:Int)).toNat]?.getD 0).toNat=0)=badC (s[i]'h):=by
 rw [badC_nat];simp [h]
theorem fn150:FnOk Tryz.prog 150 55 [4] (bodyOf Tryz.f150):=⟨Tryz.f150,Tryz.func150,by kernel_rfl,by decide,by kernel_rfl,by kernel_rfl⟩
theorem s150 (s:Str):PSpec Tryz.prog 150 [.d (.str s),.d (.str [36,0])] (.d (.int .i64 (anyI s))):=by
 refine PSpec.bd fun hbd=>?_;have hx:s.length≤9223372036854775807:=hbd.1;refine PSpec.of fn150 (by simp) fun o nk=>?_;refine wr ?_;refine ua ?_;refine u_nil ?_;refine WP.seq fun K2 hK2=>?_;refine wr ?_;refine um ?_;refine u_step (o_bin_str rfl (show _=SV.d (.str []) from rfl) rfl ?_);refine u_nil ?_;refine wc (fun hc4=>?_) (fun hc4=>?_) <;> try simp only [Q0,Q1,Q2,Q3,Q4,Q5,Q6,Q7,Q8,ge_iff_le,gt_iff_lt] at hc4
 ·
  exact absurd hc4 (by decide)
 ·
  refine WP.skip ?_;refine hK2 _ ?_;refine WP.seq fun K5 hK5=>?_;refine wr ?_;refine um ?_;refine u_step (o_len_str rfl th9 rfl ?_);refine ub ?_;refine u_nil ?_;refine wc (fun hc7=>?_) (fun hc7=>?_) <;> try simp only [Q0,Q1,Q2,Q3,Q4,Q5,Q6,Q7,Q8,ge_iff_le,gt_iff_lt] at hc7
  ·
   exact absurd hc7 (by decide)
  ·
   refine WP.skip ?_;refine hK5 _ ?_;refine WP.seq fun K8 hK8=>?_;refine wr ?_;refine um ?_;refine u_step (o_len_str rfl th9 rfl ?_);refine u_step (o_pcall (s176 _) rfl ?_);refine u_nil ?_;refine wc (fun hc10=>?_) (fun hc10=>?_) <;> try simp only [Q0,Q1,Q2,Q3,Q4,Q5,Q6,Q7,Q8,ge_iff_le,gt_iff_lt] at hc10
   ·
    refine wr ?_;refine um ?_;refine u_step (o_pcall (s177) rfl ?_);refine u_step (o_moveV (v:=.tup _) rfl ?_);refine ue ?_;refine ue ?_;refine u_step (g_alloc th149 rfl fun o12 hb12 hk12=>?_);refine u_step0 (g_sta rfl rfl th149 rfl hb12 (by simp [setA]) fun o13 hb13 hk13=>?_);have hb13:_=some (AO.box ((setA 2).map .d)):=(hb13).trans (by simp [setA]);refine ua ?_;refine u_nil ?_;refine wr ?_;refine um ?_;refine u_nil ?_;refine wc (fun hc15=>?_) (fun hc15=>?_) <;> try simp only [Q0,Q1,Q2,Q3,Q4,Q5,Q6,Q7,Q8,ge_iff_le,gt_iff_lt] at hc15
    ·
     refine WP.seq fun K16 hK16=>?_;refine wr (ua (u_nil (WP.block ?_)));refine WP.loopL (ι:=Nat) (fun i=>⟨al [(0,.d (.str s)),(6,.loc nk 0),(8,.d (.int .i64 i))],o13,(nk+1)⟩) (fun i=>i≤s.length∧∀ (j:Nat) (hj:j < s.length),j < i→badC (s[j]'hj)=false) (fun i=>s.length - i) (fun i hA=>?_) 0 ?_ ?_
     ·
      obtain ⟨hle_i,hin_i⟩:=hA;refine WP.seq fun K18 hK18=>?_;refine wr ?_;refine um ?_;refine um ?_;refine u_step (o_len_str rfl th9 rfl ?_);refine ub ?_;refine u_nil ?_;refine wc (fun hc20=>?_) (fun hc20=>?_) <;> try simp only [Q0,Q1,Q2,Q3,Q4,Q5,Q6,Q7,Q8,ge_iff_le,gt_iff_lt] at hc20
      ·
       refine WP.skip (hK18 _ (WP.seq fun K21 hK21=>?_));refine WP.block (wr (um (um ?_)));refine u_step (o_ix rfl rfl th9 rfl ?_ ?_ ?_)
       ·omega
       ·simp;omega
       refine u_step (o_scall (s178 (c:=(s[((i:Int)).toNat]?.getD 0).toNat) hb13 (by omega) (UInt8.toNat_lt _)) rfl ?_);refine u_nil ?_;refine wc (fun hc23=>?_) (fun hc23=>?_) <;> try simp only [Q0,Q1,Q2,Q3,Q4,Q5,Q6,Q7,Q8,ge_iff_le,gt_iff_lt] at hc23
       ·
        refine wr (um (ua (u_nil (WP.ret ?_))));refine ret_ok rfl ?_ (by omega) (fun t ht=>(hk13 t (by omega)).trans ((hk12 t (by omega))));refine congrArg (D.int .i64) ?_;exact (firstI_at (p:=badC) (xs:=s) (i:=i) (by omega) (by rw [← badC_get (by omega)];exact decide_eq_true hc23) hin_i).symm
       ·
        refine WP.skip (hK21 _ (WP.reg tabOk rfl ?_));refine um (ub (ua (u_nil ?_)));refine ⟨i+1,⟨by omega,?_⟩,by omega,?_⟩
        ·intro j hj h1;by_cases h2:j=i
         ·subst h2;rw [← badC_get (by omega)];exact decide_eq_false hc23
         ·exact hin_i j hj (by omega)
        ·refine Le.al ?_;simp only [List.forall_mem_cons];exact ⟨rfl,rfl,cnt (by omega),by simp⟩
      ·
       refine WP.exit ?_;refine hK16 _ (wr (ua (u_nil (WP.ret ?_))));refine ret_ok rfl ?_ (by omega) (fun t ht=>(hk13 t (by omega)).trans ((hk12 t (by omega))));refine congrArg (D.int .i64) ?_;exact (firstI_none (p:=badC) (xs:=s) fun j hj=>hin_i j hj (by omega)).symm
     ·
      simp
     ·
      refine Le.al ?_;simp only [List.forall_mem_cons];exact ⟨rfl,rfl,rfl,by simp⟩
    ·
     cases hc15
   ·
    refine WP.skip (hK8 _ (WP.seq fun K26 hK26=>?_));refine wr (um ?_);refine u_step (g_range rfl th9 rfl fun o28 hb28 hk28=>?_);refine u_nil (WP.block ?_);refine WP.loopL (ι:=Nat×(Nat→Option AO)) (fun ⟨i,o2⟩=>⟨al [(0,.d (.str s)),(1,.d (.str [36,0])),(45,.raw nk)],o2,(nk+1)⟩) (fun ⟨i,o2⟩=>i≤s.length∧o2 nk=some (.raw (itOb s i))∧(∀ t,t < nk→o2 t=o t)∧∀ (j:Nat) (hj:j < s.length),j < i→badC (s[j]'hj)=false) (fun ⟨i,o2⟩=>s.length - i) (fun ⟨i,o2⟩ hA=>?_) ⟨0,o28⟩ ?_ ?_
    ·
     obtain ⟨hle,hob,hfr,hin⟩:=hA;refine wr ?_;refine u_step (g_next rfl hob (fun hp30 o30 hb30 hk30=>?_) (fun hp30=>?_))
     ·
      have hlt:i < s.length:=hp30;obtain ⟨hd1,hd2,hd3,hd4⟩:=dec_at hlt;refine ue ?_;refine u_nil ?_;refine WP.seq fun K31 hK31=>?_;refine WP.cond rfl (fun hc32=>?_) (fun hc32=>by cases hc32);refine WP.skip ?_;refine hK31 _ ?_;refine WP.block ?_;refine wr ?_;refine ue ?_;refine ue ?_;refine ua ?_;refine ua ?_;refine u_nil ?_;refine wr ?_;refine um ?_;refine um ?_;refine u_step (o_pcall (s175 _ (by omega) (by have:=dec_bd ⟨s.toArray⟩ i;omega)) rfl ?_);refine ub ?_;refine u_nil ?_;refine wc (fun hc35=>?_) (fun hc35=>?_) <;> try simp only [Q0,Q1,Q2,Q3,Q4,Q5,Q6,Q7,Q8,ge_iff_le,gt_iff_lt] at hc35
      ·
       refine wr (um (ua (u_nil (WP.ret ?_))));refine ret_ok rfl ?_ (by omega) (fun t ht=>(hk30 t (by omega)).trans ((hfr t (by omega))));refine congrArg (D.int .i64) ?_;exact (firstI_at (p:=badC) (xs:=s) (i:=i) (by omega) (by rw [← hd4];exact decide_eq_true hc35) hin).symm
      ·
       refine WP.skip ?_;refine ⟨⟨i+_,o30⟩,⟨by omega,hb30,(fun t ht=>(hk30 t (by omega)).trans ((hfr t (by omega)))),?_⟩,by simp only;omega,?_⟩
       ·intro j hj h1;rcases Nat.lt_trichotomy j i with h2 | h2 | h2
        ·exact hin j hj h2
        ·subst h2;rw [← hd4];exact decide_eq_false hc35
        ·exact hd3 j hj h2 h1
       ·refine Le.al ?_;simp only [List.forall_mem_cons];exact ⟨rfl,rfl,rfl,by simp⟩
     ·
      refine ue (u_nil (WP.seq fun K37 hK37=>?_));refine WP.cond rfl (fun hc38=>by cases hc38) (fun hc38=>?_);refine WP.exit ?_;refine hK26 _ (wr (ua (u_nil (WP.ret ?_))));refine ret_ok rfl ?_ (by omega) (fun t ht=>(hfr t (by omega)));refine congrArg (D.int .i64) ?_;exact (firstI_none (p:=badC) (xs:=s) fun j hj=>hin j hj (by omega)).symm
    ·
     exact ⟨by omega,hb28,(fun t ht=>(hk28 t (by omega))),by simp⟩
    ·
     refine Le.al ?_;simp only [List.forall_mem_cons];exact ⟨rfl,rfl,rfl,by simp⟩
theorem fn103:FnOk Tryz.prog 103 9 [4] (bodyOf Tryz.f103):=⟨Tryz.f103,Tryz.func103,by kernel_rfl,by decide,by kernel_rfl,by kernel_rfl⟩
theorem s103 (s:Str):PSpec Tryz.prog 103 [.d (.str s),.d (.str [36,0])] (.d (.bool (s.any badC))):=by
 refine PSpec.of fn103 (by simp) fun o nk=>?_;refine wr (ua (u_nil (wr (um (um ?_)))));refine u_step (o_pcall (s150 s) rfl ?_);refine ub (ua (u_nil (WP.ret ?_)));refine ret_ok rfl ?_ (by omega) (fun _ _=>rfl);rw [← firstI_nn];rfl
theorem fn48:FnOk Tryz.prog 48 16 [2] (bodyOf Tryz.f48):=⟨Tryz.f48,Tryz.func48,by kernel_rfl,by decide,by kernel_rfl,by kernel_rfl⟩
theorem s48 (s:Str):PSpec Tryz.prog 48 [.d (.str s)] (.d (.bool (collV s))):=by
 refine PSpec.of fn48 (by simp) fun o nk=>?_;refine wr (ua (u_nil (wr (um ?_))));refine u_step (o_len_str rfl th9 rfl ?_);refine ub (um ?_);apply gT
 ·rfl
 ·intro hg;exact pm
 apply gT
 ·rfl
 ·intro hg;try simp only [hg,ct,Bt]
  refine o_len_str rfl th9 rfl ⟨rfl,rfl,rfl⟩
 apply gT
 ·rfl
 ·intro hg;try simp only [hg,ct,Bt]
  exact pb
 refine uA (um ?_);apply gT
 ·rfl
 ·intro hg;exact pm
 apply gT
 ·rfl
 ·intro hg;try simp only [hg,ct,Bt]
  refine o_pcall (s103 s) rfl ⟨rfl,rfl,rfl⟩
 apply gT
 ·rfl
 ·intro hg;try simp only [hg,ct,Bt]
  exact pN
 refine uA (ua (u_nil (WP.ret ?_)));refine ret_ok rfl ?_ (by omega) (fun _ _=>rfl);refine congrArg D.bool ?_;rw [any_bad,Bool.eq_iff_iff];simp only [collV,Bool.and_eq_true,decide_eq_true_eq,Bool.not_eq_true',decide_eq_false_iff_not,not_or];constructor
 ·rintro ⟨⟨h1,h2⟩,h3,h4⟩;exact ⟨by omega,by omega,h3,h4⟩
 ·rintro ⟨h1,h2,h3,h4⟩;exact ⟨⟨by omega,by omega⟩,h3,h4⟩
def hasC (k:Int):Bool:=decide (2≤k) && decide (k≤7)
def hasT (k:Int):Bool:=decide (k=7)
def hasI (k:Int):Bool:=decide (k=2) || decide (k=3) || decide (k=4)
def hasD (k:Int):Bool:=decide (k=2)
def hasS (k:Int):Bool:=decide (k=3)
theorem s64b (k:Int):PSpec Tryz.prog 64 [.d (.int .i64 k)] (.tup [.d (.bool (hasC k)),.d (.bool (hasT k)),.d (.bool (hasI k)),.d (.bool (hasD k)),.d (.bool (hasS k))]):=by
 have h:=s64 k;have e:(hasL k).map SV.d=[.d (.bool (hasC k)),.d (.bool (hasT k)),.d (.bool (hasI k)),.d (.bool (hasD k)),.d (.bool (hasS k))]:=by
  unfold hasL hasC hasT hasI hasD hasS;by_cases h2:k=2
  ·subst h2;rfl
  ·by_cases h3:k=3
   ·subst h3;rfl
   ·by_cases h4:k=4
    ·subst h4;rfl
    ·by_cases h5:k=5
     ·subst h5;rfl
     ·by_cases h6:k=6
      ·subst h6;rfl
      ·by_cases h7:k=7
       ·subst h7;rfl
       ·have:(decide (2≤k) && decide (k≤7))=false:=by simp;omega
        simp [h2,h3,h4,h5,h6,h7,this]
 rwa [e] at h
structure Bits (k:Int):Prop where
 t1:(bitsOf .and .i64 (fieldsV k) 2 != 0)=hasT k
 t0:(bitsOf .and .i64 (fieldsV k) 2 == 0)=!hasT k
 c1:(bitsOf .and .i64 (fieldsV k) 1 != 0)=hasC k
 c0:(bitsOf .and .i64 (fieldsV k) 1 == 0)=!hasC k
 i1:(bitsOf .and .i64 (fieldsV k) 4 != 0)=hasI k
 i0:(bitsOf .and .i64 (fieldsV k) 4 == 0)=!hasI k
 d1:(bitsOf .and .i64 (fieldsV k) 8 != 0)=hasD k
 d0:(bitsOf .and .i64 (fieldsV k) 8 == 0)=!hasD k
 s1:(bitsOf .and .i64 (fieldsV k) 16 != 0)=hasS k
 s0:(bitsOf .and .i64 (fieldsV k) 16 == 0)=!hasS k
theorem bits_of {k:Int} (h:1≤k∧k≤7):Bits k:=by
 obtain rfl | rfl | rfl | rfl | rfl | rfl | rfl:k=1∨k=2∨k=3∨k=4∨k=5∨k=6∨k=7:=by omega
 all_goals exact ⟨by decide,by decide,by decide,by decide,by decide,by decide,by decide,by decide,by decide,by decide⟩
theorem fields_ok (k:Int):decide (fieldsV k < 0)=!(decide (1≤k) && decide (k≤7)):=by
 by_cases h:1≤k∧k≤7
 ·obtain rfl | rfl | rfl | rfl | rfl | rfl | rfl:k=1∨k=2∨k=3∨k=4∨k=5∨k=6∨k=7:=by omega
  all_goals rfl
 ·have:fieldsV k=-1:=by
   unfold fieldsV;rw [if_neg (by omega),if_neg (by omega),if_neg (by omega),if_neg (by omega),if_neg (by omega),if_neg (by omega)]
  rw [this,Bool.eq_iff_iff];simp;omega
def namesE (e:Etr):Bool:=(if hasT e.kind=true then collV e.to && !decide (e.to=e.coll) else decide (e.to=[])) && (if hasC e.kind=true then collV e.coll else decide (e.coll=[]))
noncomputable def valuesE (e:Etr):Bool:=(hasI e.kind || noneV e.id) && (hasD e.kind || noneV e.doc) && (hasS e.kind || decide (e.deltas.length=0)) && (!hasI e.kind || decide (checkV e.id=0)) && (!hasD e.kind || mayDocV e.doc e.id) && (!hasS e.kind || mayDeltasV e.deltas)
noncomputable def mayE (e:Etr):Bool:=(decide (1≤e.kind) && decide (e.kind≤7)) && (decide (0≤e.term) && decide (e.term≤1099511627776)) && (decide (0≤e.session) && decide (e.session≤255)) && (decide (0≤e.number) && decide (e.number≤1099511627776)) && (!decide (e.kind=1) || decide (e.session=0) && decide (e.number=0)) && namesE e && valuesE e
structure OkE (e:Etr):Prop where
 ri:rngV e.id
 si:szV e.id≤1099511627776
 rd:rngV e.doc
 sd:szV e.doc≤1099511627776
 ds:e.deltas.length≤64→∀ d∈e.deltas,okD d
theorem coll_nil:collV []=false:=by decide
theorem d_imp_i {k:Int} (h:hasD k=true):hasI k=true:=by
 unfold hasD at h;unfold hasI;simp at h;simp [h]
theorem pvE {P:Program} {f:FuncId} {v w:Val} {r:SV} (h:PSpec P f [.d (encV v),.d (encV w)] r):PSpec P f [.d (.agg (valCells v)),.d (.agg (valCells w))] r:=by
 rw [encV_eq,encV_eq] at h;exact h
theorem fn101:FnOk Tryz.prog 101 40 [4] (bodyOf Tryz.f101):=⟨Tryz.f101,Tryz.func101,by kernel_rfl,by decide,by kernel_rfl,by kernel_rfl⟩
theorem s101 (e:Etr) (hk:1≤e.kind∧e.kind≤7):PSpec Tryz.prog 101 [.d (encE e),.d (.int .i64 (fieldsV e.kind))] (.d (.bool (namesE e))):=by
 have hb:=bits_of hk;refine PSpec.of fn101 (by simp) fun o nk=>?_;refine wr ?_;refine u_step (g_box rfl fun o2 hb2 hk2=>?_);refine ua (u_nil (WP.seq fun K3 hK3=>?_));refine wr (um (ub (ub (um ?_))));apply gT
 ·rfl
 ·intro hg;exact pf th30 th9 hb2
 apply gT
 ·rfl
 ·intro hg;try simp only [hg,ct,Bt]
  exact pl th9 hb2
 apply gT
 ·rfl
 ·intro hg;try simp only [hg,ct,Bt]
  refine o_pcall (s48 _) rfl ⟨rfl,rfl,rfl⟩
 apply gT
 ·rfl
 ·intro hg;try simp only [hg,ct,Bt]
  exact pN
 apply gT
 ·rfl
 ·intro hg;try simp only [hg,ct,Bt]
  exact pm
 apply u_guard
 ·exact GC.cf _ _
 ·intro hg;exact pf th30 th9 hb2
 apply u_guard
 ·exact GC.cf _ _
 ·intro hg;try simp only [hg,ct,Bt]
  exact pl th9 hb2
 apply u_guard
 ·exact GC.cf _ _
 ·intro hg;exact pf th30 th9 hb2
 apply u_guard
 ·exact GC.cf _ _
 ·intro hg;try simp only [hg,ct,Bt]
  exact pl th9 hb2
 apply u_guard
 ·exact GC.cf _ _
 ·intro hg;try simp only [hg,ct,Bt]
  exact ps
 apply gT
 ·rfl
 ·intro hg;try simp only [hg,ct,Bt]
  exact pO
 refine uA (um ?_);apply gF
 ·rfl
 ·intro hg;exact pm
 apply gF
 ·rfl
 ·intro hg;try simp only [hg,ct,Bt]
  exact pb
 apply gF
 ·rfl
 ·intro hg;try simp only [hg,ct,Bt]
  exact pb
 apply gF
 ·rfl
 ·intro hg;try simp only [hg,ct,Bt]
  exact pm
 apply u_guard
 ·exact GC.ct _ _
 ·intro hg;exact pf th30 th9 hb2
 apply u_guard
 ·exact GC.ct _ _
 ·intro hg;try simp only [hg,ct,Bt]
  exact pl th9 hb2
 apply u_guard
 ·exact GC.ct _ _
 ·intro hg;try simp only [hg,ct,Bt]
  refine o_bin_str rfl (show _=SV.d (.str []) from rfl) rfl ⟨rfl,rfl,rfl⟩
 apply gF
 ·rfl
 ·intro hg;try simp only [hg,ct,Bt]
  exact pA
 refine uO ?_;refine u_nil ?_;refine wc (fun hc5=>?_) (fun hc5=>?_) <;> try simp only [Q0,Q1,Q2,Q3,Q4,Q5,Q6,Q7,Q8,ge_iff_le,gt_iff_lt] at hc5
 ·
  refine wr (ua (u_nil (WP.ret ?_)));refine ret_ok rfl ?_ (by omega) (fun t ht=>(hk2 t (by omega)));clear hK3;refine congrArg D.bool ?_
  try simp only [hb.t1,hb.t0,hb.c1,hb.c0,hb.i1,hb.i0,hb.d1,hb.d0,hb.s1,hb.s0] at hc5
  try simp only [hb.t1,hb.t0,hb.c1,hb.c0,hb.i1,hb.i0,hb.d1,hb.d0,hb.s1,hb.s0]
  simp only [namesE,List.length_map] at *
  grind
 ·
  refine WP.skip ?_;refine hK3 _ ?_;refine WP.seq fun K7 hK7=>?_;refine wr ?_;refine um ?_;refine ub ?_;refine ub ?_;refine u_nil ?_;refine wc (fun hc9=>?_) (fun hc9=>?_) <;> try simp only [Q0,Q1,Q2,Q3,Q4,Q5,Q6,Q7,Q8,ge_iff_le,gt_iff_lt] at hc9
  ·
   refine wr (uf th30 th9 hb2 ?_);refine ul th9 hb2 ?_;refine u_step (o_pcall (s48 _) rfl ?_);refine ua (u_nil (WP.ret ?_));refine ret_ok rfl ?_ (by omega) (fun t ht=>(hk2 t (by omega)));clear hK3 hK7;refine congrArg D.bool ?_
   try simp only [hb.t1,hb.t0,hb.c1,hb.c0,hb.i1,hb.i0,hb.d1,hb.d0,hb.s1,hb.s0] at hc5 hc9
   try simp only [hb.t1,hb.t0,hb.c1,hb.c0,hb.i1,hb.i0,hb.d1,hb.d0,hb.s1,hb.s0]
   simp only [namesE,List.length_map] at *
   grind
  ·
   refine WP.skip (hK7 _ (wr (uf th30 th9 hb2 ?_)));refine ul th9 hb2 ?_;refine u_step (o_bin_str rfl (show _=SV.d (.str []) from rfl) rfl ?_);refine ua (u_nil (WP.ret ?_));refine ret_ok rfl ?_ (by omega) (fun t ht=>(hk2 t (by omega)));clear hK3 hK7;refine congrArg D.bool ?_
   try simp only [hb.t1,hb.t0,hb.c1,hb.c0,hb.i1,hb.i0,hb.d1,hb.d0,hb.s1,hb.s0] at hc5 hc9
   try simp only [hb.t1,hb.t0,hb.c1,hb.c0,hb.i1,hb.i0,hb.d1,hb.d0,hb.s1,hb.s0]
   simp only [namesE,List.length_map] at *
   grind
theorem fn102:FnOk Tryz.prog 102 63 [4] (bodyOf Tryz.f102):=⟨Tryz.f102,Tryz.func102,by kernel_rfl,by decide,by kernel_rfl,by kernel_rfl⟩
theorem s102 (e:Etr) (hk:1≤e.kind∧e.kind≤7) (ok:OkE e):PSpec Tryz.prog 102 [.d (encE e),.d (.int .i64 (fieldsV e.kind))] (.d (.bool (valuesE e))):=by
 have hb:=bits_of hk;refine PSpec.of fn102 (by simp) fun o nk=>?_;refine wr ?_;refine u_step (g_box rfl fun o2 hb2 hk2=>?_);refine ua (u_nil (WP.seq fun K3 hK3=>?_));refine WP.block (WP.seq fun K4 hK4=>?_);refine wr (um (ub (ub (um ?_))));apply gT
 ·rfl
 ·intro hg;exact pf th30 th27 hb2
 apply gT
 ·rfl
 ·intro hg;try simp only [hg,ct,Bt]
  exact pg th27 hb2
 apply gT
 ·rfl
 ·intro hg;try simp only [hg,ct,Bt]
  refine o_pcall (pv (v:=e.id) (s147 e.id ok.si)) rfl ⟨rfl,rfl,rfl⟩
 apply gT
 ·rfl
 ·intro hg;try simp only [hg,ct,Bt]
  exact pN
 refine uA ?_;refine ua ?_;refine u_nil ?_;refine wc (fun hc6=>?_) (fun hc6=>?_) <;> try simp only [Q0,Q1,Q2,Q3,Q4,Q5,Q6,Q7,Q8,ge_iff_le,gt_iff_lt] at hc6
 ·
  refine WP.skip ?_;refine hK4 _ ?_;refine wc (fun hc7=>?_) (fun hc7=>?_) <;> try simp only [Q0,Q1,Q2,Q3,Q4,Q5,Q6,Q7,Q8,ge_iff_le,gt_iff_lt] at hc7
  ·
   refine wr (ua (u_nil (WP.ret ?_)));refine ret_ok rfl ?_ (by omega) (fun t ht=>(hk2 t (by omega)));clear hK3 hK4;refine congrArg D.bool ?_
   try simp only [hb.t1,hb.t0,hb.c1,hb.c0,hb.i1,hb.i0,hb.d1,hb.d0,hb.s1,hb.s0] at hc6 hc7
   try simp only [hb.t1,hb.t0,hb.c1,hb.c0,hb.i1,hb.i0,hb.d1,hb.d0,hb.s1,hb.s0]
   simp only [valuesE,List.length_map] at *
   grind
  ·
   refine wr (um (ub (ub (um ?_))));apply gT
   ·rfl
   ·intro hg;exact pf th30 th27 hb2
   apply gT
   ·rfl
   ·intro hg;try simp only [hg,ct,Bt]
    exact pg th27 hb2
   apply gT
   ·rfl
   ·intro hg;try simp only [hg,ct,Bt]
    refine o_pcall (pv (v:=e.id) (s123 e.id ok.ri ok.si)) rfl ⟨rfl,rfl,rfl⟩
   apply gT
   ·rfl
   ·intro hg;try simp only [hg,ct,Bt]
    exact pb
   refine uA ?_;refine ua ?_;refine u_nil ?_;refine wc (fun hc10=>?_) (fun hc10=>?_) <;> try simp only [Q0,Q1,Q2,Q3,Q4,Q5,Q6,Q7,Q8,ge_iff_le,gt_iff_lt] at hc10
   ·
    refine wr (ua (u_nil (WP.ret ?_)));refine ret_ok rfl ?_ (by omega) (fun t ht=>(hk2 t (by omega)));clear hK3 hK4;refine congrArg D.bool ?_
    try simp only [hb.t1,hb.t0,hb.c1,hb.c0,hb.i1,hb.i0,hb.d1,hb.d0,hb.s1,hb.s0] at hc6 hc7 hc10
    try simp only [hb.t1,hb.t0,hb.c1,hb.c0,hb.i1,hb.i0,hb.d1,hb.d0,hb.s1,hb.s0]
    simp only [valuesE,List.length_map] at *
    grind
   ·
    refine wr (um (ub (ub (um ?_))));apply gT
    ·rfl
    ·intro hg;exact pf th30 th27 hb2
    apply gT
    ·rfl
    ·intro hg;try simp only [hg,ct,Bt]
     exact pg th27 hb2
    apply gT
    ·rfl
    ·intro hg;exact pf th30 th27 hb2
    apply gT
    ·rfl
    ·intro hg;try simp only [hg,ct,Bt]
     exact pg th27 hb2
    apply gT
    ·rfl
    ·intro hg;try simp only [hg,ct,Bt]
     refine o_pcall (pvE (v:=e.doc) (w:=e.id) (s148 e.doc e.id ok.rd ok.sd (by simp only [hb.d1] at hg;have hi:=d_imp_i hg;have hq:=hc10;simp only [hb.i1,hi,Bool.true_and,bne_eq_false_iff_eq] at hq;exact check_may hq))) rfl ⟨rfl,rfl,rfl⟩
    apply gT
    ·rfl
    ·intro hg;try simp only [hg,ct,Bt]
     exact pN
    refine uA ?_;refine ua ?_;refine u_nil ?_;refine wc (fun hc13=>?_) (fun hc13=>?_) <;> try simp only [Q0,Q1,Q2,Q3,Q4,Q5,Q6,Q7,Q8,ge_iff_le,gt_iff_lt] at hc13
    ·
     refine wr (ua (u_nil (WP.ret ?_)));refine ret_ok rfl ?_ (by omega) (fun t ht=>(hk2 t (by omega)));clear hK3 hK4;refine congrArg D.bool ?_
     try simp only [hb.t1,hb.t0,hb.c1,hb.c0,hb.i1,hb.i0,hb.d1,hb.d0,hb.s1,hb.s0] at hc6 hc7 hc10 hc13
     try simp only [hb.t1,hb.t0,hb.c1,hb.c0,hb.i1,hb.i0,hb.d1,hb.d0,hb.s1,hb.s0]
     simp only [valuesE,List.length_map] at *
     grind
    ·
     refine WP.skip (hK3 _ (wr (um (ub (ub (um ?_))))));apply gF
     ·rfl
     ·intro hg;exact pf th30 th28 hb2
     apply gF
     ·rfl
     ·intro hg;try simp only [hg,ct,Bt]
      exact pl th28 hb2
     apply gF
     ·rfl
     ·intro hg;try simp only [hg,ct,Bt]
      refine o_pcall (s149 e.deltas ok.ds) rfl ⟨rfl,rfl,rfl⟩
     refine uO (ua (u_nil (WP.ret ?_)));refine ret_ok rfl ?_ (by omega) (fun t ht=>(hk2 t (by omega)));clear hK3 hK4;refine congrArg D.bool ?_
     try simp only [hb.t1,hb.t0,hb.c1,hb.c0,hb.i1,hb.i0,hb.d1,hb.d0,hb.s1,hb.s0] at hc6 hc7 hc10 hc13
     try simp only [hb.t1,hb.t0,hb.c1,hb.c0,hb.i1,hb.i0,hb.d1,hb.d0,hb.s1,hb.s0]
     simp only [valuesE,List.length_map] at *
     grind
 ·
  refine wr (um (ub (ub (um ?_))));apply gT
  ·rfl
  ·intro hg;exact pf th30 th27 hb2
  apply gT
  ·rfl
  ·intro hg;try simp only [hg,ct,Bt]
   exact pg th27 hb2
  apply gT
  ·rfl
  ·intro hg;try simp only [hg,ct,Bt]
   refine o_pcall (pv (v:=e.doc) (s147 e.doc ok.sd)) rfl ⟨rfl,rfl,rfl⟩
  apply gT
  ·rfl
  ·intro hg;try simp only [hg,ct,Bt]
   exact pN
  refine uA ?_;refine ua ?_;refine u_nil ?_;refine wc (fun hc17=>?_) (fun hc17=>?_) <;> try simp only [Q0,Q1,Q2,Q3,Q4,Q5,Q6,Q7,Q8,ge_iff_le,gt_iff_lt] at hc17
  ·
   refine WP.skip ?_;refine hK4 _ ?_;refine wc (fun hc18=>?_) (fun hc18=>?_) <;> try simp only [Q0,Q1,Q2,Q3,Q4,Q5,Q6,Q7,Q8,ge_iff_le,gt_iff_lt] at hc18
   ·
    refine wr (ua (u_nil (WP.ret ?_)));refine ret_ok rfl ?_ (by omega) (fun t ht=>(hk2 t (by omega)));clear hK3 hK4;refine congrArg D.bool ?_
    try simp only [hb.t1,hb.t0,hb.c1,hb.c0,hb.i1,hb.i0,hb.d1,hb.d0,hb.s1,hb.s0] at hc6 hc17 hc18
    try simp only [hb.t1,hb.t0,hb.c1,hb.c0,hb.i1,hb.i0,hb.d1,hb.d0,hb.s1,hb.s0]
    simp only [valuesE,List.length_map] at *
    grind
   ·
    refine wr (um (ub (ub (um ?_))));apply gT
    ·rfl
    ·intro hg;exact pf th30 th27 hb2
    apply gT
    ·rfl
    ·intro hg;try simp only [hg,ct,Bt]
     exact pg th27 hb2
    apply gT
    ·rfl
    ·intro hg;try simp only [hg,ct,Bt]
     refine o_pcall (pv (v:=e.id) (s123 e.id ok.ri ok.si)) rfl ⟨rfl,rfl,rfl⟩
    apply gT
    ·rfl
    ·intro hg;try simp only [hg,ct,Bt]
     exact pb
    refine uA ?_;refine ua ?_;refine u_nil ?_;refine wc (fun hc21=>?_) (fun hc21=>?_) <;> try simp only [Q0,Q1,Q2,Q3,Q4,Q5,Q6,Q7,Q8,ge_iff_le,gt_iff_lt] at hc21
    ·
     refine wr (ua (u_nil (WP.ret ?_)));refine ret_ok rfl ?_ (by omega) (fun t ht=>(hk2 t (by omega)));clear hK3 hK4;refine congrArg D.bool ?_
     try simp only [hb.t1,hb.t0,hb.c1,hb.c0,hb.i1,hb.i0,hb.d1,hb.d0,hb.s1,hb.s0] at hc6 hc17 hc18 hc21
     try simp only [hb.t1,hb.t0,hb.c1,hb.c0,hb.i1,hb.i0,hb.d1,hb.d0,hb.s1,hb.s0]
     simp only [valuesE,List.length_map] at *
     grind
    ·
     refine wr (um (ub (ub (um ?_))));apply gT
     ·rfl
     ·intro hg;exact pf th30 th27 hb2
     apply gT
     ·rfl
     ·intro hg;try simp only [hg,ct,Bt]
      exact pg th27 hb2
     apply gT
     ·rfl
     ·intro hg;exact pf th30 th27 hb2
     apply gT
     ·rfl
     ·intro hg;try simp only [hg,ct,Bt]
      exact pg th27 hb2
     apply gT
     ·rfl
     ·intro hg;try simp only [hg,ct,Bt]
      refine o_pcall (pvE (v:=e.doc) (w:=e.id) (s148 e.doc e.id ok.rd ok.sd (by simp only [hb.d1] at hg;have hi:=d_imp_i hg;have hq:=hc21;simp only [hb.i1,hi,Bool.true_and,bne_eq_false_iff_eq] at hq;exact check_may hq))) rfl ⟨rfl,rfl,rfl⟩
     apply gT
     ·rfl
     ·intro hg;try simp only [hg,ct,Bt]
      exact pN
     refine uA ?_;refine ua ?_;refine u_nil ?_;refine wc (fun hc24=>?_) (fun hc24=>?_) <;> try simp only [Q0,Q1,Q2,Q3,Q4,Q5,Q6,Q7,Q8,ge_iff_le,gt_iff_lt] at hc24
     ·
      refine wr (ua (u_nil (WP.ret ?_)));refine ret_ok rfl ?_ (by omega) (fun t ht=>(hk2 t (by omega)));clear hK3 hK4;refine congrArg D.bool ?_
      try simp only [hb.t1,hb.t0,hb.c1,hb.c0,hb.i1,hb.i0,hb.d1,hb.d0,hb.s1,hb.s0] at hc6 hc17 hc18 hc21 hc24
      try simp only [hb.t1,hb.t0,hb.c1,hb.c0,hb.i1,hb.i0,hb.d1,hb.d0,hb.s1,hb.s0]
      simp only [valuesE,List.length_map] at *
      grind
     ·
      refine WP.skip (hK3 _ (wr (um (ub (ub (um ?_))))));apply gF
      ·rfl
      ·intro hg;exact pf th30 th28 hb2
      apply gF
      ·rfl
      ·intro hg;try simp only [hg,ct,Bt]
       exact pl th28 hb2
      apply gF
      ·rfl
      ·intro hg;try simp only [hg,ct,Bt]
       refine o_pcall (s149 e.deltas ok.ds) rfl ⟨rfl,rfl,rfl⟩
      refine uO (ua (u_nil (WP.ret ?_)));refine ret_ok rfl ?_ (by omega) (fun t ht=>(hk2 t (by omega)));clear hK3 hK4;refine congrArg D.bool ?_
      try simp only [hb.t1,hb.t0,hb.c1,hb.c0,hb.i1,hb.i0,hb.d1,hb.d0,hb.s1,hb.s0] at hc6 hc17 hc18 hc21 hc24
      try simp only [hb.t1,hb.t0,hb.c1,hb.c0,hb.i1,hb.i0,hb.d1,hb.d0,hb.s1,hb.s0]
      simp only [valuesE,List.length_map] at *
      grind
  ·
   refine WP.reg tabOk rfl ?_;refine um (ub (ub (um ?_)));apply gT
   ·rfl
   ·intro hg;exact pf th30 th28 hb2
   apply gT
   ·rfl
   ·intro hg;try simp only [hg,ct,Bt]
    exact pl th28 hb2
   apply gT
   ·rfl
   ·intro hg;try simp only [hg,ct,Bt]
    exact pn th28
   apply gT
   ·rfl
   ·intro hg;try simp only [hg,ct,Bt]
    exact pb
   refine uA ?_;refine ua ?_;refine u_nil ?_;refine hK4 _ ?_;refine wc (fun hc27=>?_) (fun hc27=>?_) <;> try simp only [Q0,Q1,Q2,Q3,Q4,Q5,Q6,Q7,Q8,ge_iff_le,gt_iff_lt] at hc27
   ·
    refine wr (ua (u_nil (WP.ret ?_)));refine ret_ok rfl ?_ (by omega) (fun t ht=>(hk2 t (by omega)));clear hK3 hK4;refine congrArg D.bool ?_
    try simp only [hb.t1,hb.t0,hb.c1,hb.c0,hb.i1,hb.i0,hb.d1,hb.d0,hb.s1,hb.s0] at hc6 hc17 hc27
    try simp only [hb.t1,hb.t0,hb.c1,hb.c0,hb.i1,hb.i0,hb.d1,hb.d0,hb.s1,hb.s0]
    simp only [valuesE,List.length_map] at *
    grind
   ·
    refine wr (um (ub (ub (um ?_))));apply gT
    ·rfl
    ·intro hg;exact pf th30 th27 hb2
    apply gT
    ·rfl
    ·intro hg;try simp only [hg,ct,Bt]
     exact pg th27 hb2
    apply gT
    ·rfl
    ·intro hg;try simp only [hg,ct,Bt]
     refine o_pcall (pv (v:=e.id) (s123 e.id ok.ri ok.si)) rfl ⟨rfl,rfl,rfl⟩
    apply gT
    ·rfl
    ·intro hg;try simp only [hg,ct,Bt]
     exact pb
    refine uA ?_;refine ua ?_;refine u_nil ?_;refine wc (fun hc30=>?_) (fun hc30=>?_) <;> try simp only [Q0,Q1,Q2,Q3,Q4,Q5,Q6,Q7,Q8,ge_iff_le,gt_iff_lt] at hc30
    ·
     refine wr (ua (u_nil (WP.ret ?_)));refine ret_ok rfl ?_ (by omega) (fun t ht=>(hk2 t (by omega)));clear hK3 hK4;refine congrArg D.bool ?_
     try simp only [hb.t1,hb.t0,hb.c1,hb.c0,hb.i1,hb.i0,hb.d1,hb.d0,hb.s1,hb.s0] at hc6 hc17 hc27 hc30
     try simp only [hb.t1,hb.t0,hb.c1,hb.c0,hb.i1,hb.i0,hb.d1,hb.d0,hb.s1,hb.s0]
     simp only [valuesE,List.length_map] at *
     grind
    ·
     refine wr (um (ub (ub (um ?_))));apply gT
     ·rfl
     ·intro hg;exact pf th30 th27 hb2
     apply gT
     ·rfl
     ·intro hg;try simp only [hg,ct,Bt]
      exact pg th27 hb2
     apply gT
     ·rfl
     ·intro hg;exact pf th30 th27 hb2
     apply gT
     ·rfl
     ·intro hg;try simp only [hg,ct,Bt]
      exact pg th27 hb2
     apply gT
     ·rfl
     ·intro hg;try simp only [hg,ct,Bt]
      refine o_pcall (pvE (v:=e.doc) (w:=e.id) (s148 e.doc e.id ok.rd ok.sd (by simp only [hb.d1] at hg;have hi:=d_imp_i hg;have hq:=hc30;simp only [hb.i1,hi,Bool.true_and,bne_eq_false_iff_eq] at hq;exact check_may hq))) rfl ⟨rfl,rfl,rfl⟩
     apply gT
     ·rfl
     ·intro hg;try simp only [hg,ct,Bt]
      exact pN
     refine uA ?_;refine ua ?_;refine u_nil ?_;refine wc (fun hc33=>?_) (fun hc33=>?_) <;> try simp only [Q0,Q1,Q2,Q3,Q4,Q5,Q6,Q7,Q8,ge_iff_le,gt_iff_lt] at hc33
     ·
      refine wr (ua (u_nil (WP.ret ?_)));refine ret_ok rfl ?_ (by omega) (fun t ht=>(hk2 t (by omega)));clear hK3 hK4;refine congrArg D.bool ?_
      try simp only [hb.t1,hb.t0,hb.c1,hb.c0,hb.i1,hb.i0,hb.d1,hb.d0,hb.s1,hb.s0] at hc6 hc17 hc27 hc30 hc33
      try simp only [hb.t1,hb.t0,hb.c1,hb.c0,hb.i1,hb.i0,hb.d1,hb.d0,hb.s1,hb.s0]
      simp only [valuesE,List.length_map] at *
      grind
     ·
      refine WP.skip (hK3 _ (wr (um (ub (ub (um ?_))))));apply gF
      ·rfl
      ·intro hg;exact pf th30 th28 hb2
      apply gF
      ·rfl
      ·intro hg;try simp only [hg,ct,Bt]
       exact pl th28 hb2
      apply gF
      ·rfl
      ·intro hg;try simp only [hg,ct,Bt]
       refine o_pcall (s149 e.deltas ok.ds) rfl ⟨rfl,rfl,rfl⟩
      refine uO (ua (u_nil (WP.ret ?_)));refine ret_ok rfl ?_ (by omega) (fun t ht=>(hk2 t (by omega)));clear hK3 hK4;refine congrArg D.bool ?_
      try simp only [hb.t1,hb.t0,hb.c1,hb.c0,hb.i1,hb.i0,hb.d1,hb.d0,hb.s1,hb.s0] at hc6 hc17 hc27 hc30 hc33
      try simp only [hb.t1,hb.t0,hb.c1,hb.c0,hb.i1,hb.i0,hb.d1,hb.d0,hb.s1,hb.s0]
      simp only [valuesE,List.length_map] at *
      grind
theorem may_split {e:Etr} {b:Bool} (h:fieldsV e.kind < 0→b=true):b=false→1≤e.kind∧e.kind≤7:=fun hb=>by
 have:=fields_ok e.kind;by_cases hf:fieldsV e.kind < 0
 ·rw [h hf] at hb;cases hb
 ·rw [decide_eq_false hf] at this;simpa using this.symm
theorem fn45:FnOk Tryz.prog 45 48 [2] (bodyOf Tryz.f45):=⟨Tryz.f45,Tryz.func45,by kernel_rfl,by decide,by kernel_rfl,by kernel_rfl⟩
theorem s45 (e:Etr) (ok:OkE e):PSpec Tryz.prog 45 [.d (encE e)] (.d (.bool (mayE e))):=by
 refine PSpec.of fn45 (by simp) fun o nk=>?_;refine wr ?_;refine u_step (g_box rfl fun o2 hb2 hk2=>?_);refine ua (u_nil (wr (uf th30 th3 hb2 ?_)));refine ul th3 hb2 ?_;refine u_step (o_pcall (s99 e.kind) rfl ?_);refine ua (u_nil (WP.seq fun K4 hK4=>?_));refine wr (um (ub (um ?_)));apply gF
 ·rfl
 ·intro hg;exact pf th30 th3 hb2
 apply gF
 ·rfl
 ·intro hg;try simp only [hg,ct,Bt]
  exact pl th3 hb2
 apply gF
 ·rfl
 ·intro hg;try simp only [hg,ct,Bt]
  refine o_pcall (s100 e.term _) rfl ⟨rfl,rfl,rfl⟩
 apply gF
 ·rfl
 ·intro hg;try simp only [hg,ct,Bt]
  exact pN
 refine uO (um ?_);apply gF
 ·rfl
 ·intro hg;exact pf th30 th3 hb2
 apply gF
 ·rfl
 ·intro hg;try simp only [hg,ct,Bt]
  exact pl th3 hb2
 apply gF
 ·rfl
 ·intro hg;try simp only [hg,ct,Bt]
  refine o_pcall (s100 e.session _) rfl ⟨rfl,rfl,rfl⟩
 apply gF
 ·rfl
 ·intro hg;try simp only [hg,ct,Bt]
  exact pN
 refine uO (um ?_);apply gF
 ·rfl
 ·intro hg;exact pf th30 th3 hb2
 apply gF
 ·rfl
 ·intro hg;try simp only [hg,ct,Bt]
  exact pl th3 hb2
 apply gF
 ·rfl
 ·intro hg;try simp only [hg,ct,Bt]
  refine o_pcall (s100 e.number _) rfl ⟨rfl,rfl,rfl⟩
 apply gF
 ·rfl
 ·intro hg;try simp only [hg,ct,Bt]
  exact pN
 refine uO ?_;refine u_nil ?_;refine wc (fun hc6=>?_) (fun hc6=>?_) <;> try simp only [Q0,Q1,Q2,Q3,Q4,Q5,Q6,Q7,Q8,ge_iff_le,gt_iff_lt] at hc6
 ·
  refine wr (ua (u_nil (WP.ret ?_)));refine ret_ok rfl ?_ (by omega) (fun t ht=>(hk2 t (by omega)));clear hK4;refine congrArg D.bool ?_;have hfk:=fields_ok e.kind;simp only [decide_eq_true_eq,decide_eq_false_iff_not,mayE] at *
  grind
 ·
  have hk:=may_split (e:=e) (b:=_) (fun hf=>by simp [hf]) hc6;refine WP.skip (hK4 _ (WP.seq fun K8 hK8=>?_));refine wr (uf th30 th3 hb2 ?_);refine ul th3 hb2 ?_;refine ub (um ?_);apply gT
  ·rfl
  ·intro hg;exact pf th30 th3 hb2
  apply gT
  ·rfl
  ·intro hg;try simp only [hg,ct,Bt]
   exact pl th3 hb2
  apply gT
  ·rfl
  ·intro hg;try simp only [hg,ct,Bt]
   exact pb
  apply gT
  ·rfl
  ·intro hg;try simp only [hg,ct,Bt]
   exact pm
  apply u_guard
  ·exact GC.cf _ _
  ·intro hg;exact pf th30 th3 hb2
  apply u_guard
  ·exact GC.cf _ _
  ·intro hg;try simp only [hg,ct,Bt]
   exact pl th3 hb2
  apply u_guard
  ·exact GC.cf _ _
  ·intro hg;try simp only [hg,ct,Bt]
   exact pb
  apply gT
  ·rfl
  ·intro hg;try simp only [hg,ct,Bt]
   exact pO
  refine uA ?_;refine u_nil ?_;refine wc (fun hc10=>?_) (fun hc10=>?_) <;> try simp only [Q0,Q1,Q2,Q3,Q4,Q5,Q6,Q7,Q8,ge_iff_le,gt_iff_lt] at hc10
  ·
   refine wr (ua (u_nil (WP.ret ?_)));refine ret_ok rfl ?_ (by omega) (fun t ht=>(hk2 t (by omega)));clear hK4 hK8;refine congrArg D.bool ?_;have hfk:=fields_ok e.kind;simp only [decide_eq_true_eq,decide_eq_false_iff_not,mayE] at *
   grind
  ·
   refine WP.skip (hK8 _ (wr (ug th30 hb2 ?_)));refine um ?_;refine u_step (o_pcall (s101 e hk) rfl ?_);refine um ?_;apply gT
   ·rfl
   ·intro hg;exact pg th30 hb2
   apply gT
   ·rfl
   ·intro hg;exact pm
   apply gT
   ·rfl
   ·intro hg;try simp only [hg,ct,Bt]
    refine o_pcall (s102 e hk ok) rfl ⟨rfl,rfl,rfl⟩
   refine uA (ua (u_nil (WP.ret ?_)));refine ret_ok rfl ?_ (by omega) (fun t ht=>(hk2 t (by omega)));clear hK4 hK8;refine congrArg D.bool ?_;have hfk:=fields_ok e.kind;simp only [decide_eq_true_eq,decide_eq_false_iff_not,mayE] at *
   grind
theorem fn24:FnOk Tryz.prog 24 160 [2] (bodyOf Tryz.f24):=⟨Tryz.f24,Tryz.func24,by kernel_rfl,by decide,by kernel_rfl,by kernel_rfl⟩
theorem s24 (e:Etr) (ok:OkE e):PSpec Tryz.prog 24 [.d (encE e)] (.d (.bool (mayE e))):=by
 refine PSpec.of fn24 (by simp) fun o nk=>?_;refine wr ?_;refine u_step (g_box rfl fun o2 hb2 hk2=>?_);refine ua (u_nil (WP.seq fun K3 hK3=>?_));refine wr (uf th30 th3 hb2 ?_);refine ul th3 hb2 ?_;refine ub (um ?_);apply gF
 ·rfl
 ·intro hg;exact pf th30 th3 hb2
 apply gF
 ·rfl
 ·intro hg;try simp only [hg,ct,Bt]
  exact pl th3 hb2
 apply gF
 ·rfl
 ·intro hg;try simp only [hg,ct,Bt]
  exact pb
 refine uO (um ?_);apply gF
 ·rfl
 ·intro hg;exact pf th30 th3 hb2
 apply gF
 ·rfl
 ·intro hg;try simp only [hg,ct,Bt]
  exact pl th3 hb2
 apply gF
 ·rfl
 ·intro hg;try simp only [hg,ct,Bt]
  exact pb
 refine uO (um ?_);apply gF
 ·rfl
 ·intro hg;exact pf th30 th3 hb2
 apply gF
 ·rfl
 ·intro hg;try simp only [hg,ct,Bt]
  exact pl th3 hb2
 apply gF
 ·rfl
 ·intro hg;try simp only [hg,ct,Bt]
  exact pb
 refine uO (um ?_);apply gF
 ·rfl
 ·intro hg;exact pf th30 th3 hb2
 apply gF
 ·rfl
 ·intro hg;try simp only [hg,ct,Bt]
  exact pl th3 hb2
 apply gF
 ·rfl
 ·intro hg;try simp only [hg,ct,Bt]
  exact pb
 refine uO (um ?_);apply gF
 ·rfl
 ·intro hg;exact pf th30 th3 hb2
 apply gF
 ·rfl
 ·intro hg;try simp only [hg,ct,Bt]
  exact pl th3 hb2
 apply gF
 ·rfl
 ·intro hg;try simp only [hg,ct,Bt]
  exact pb
 refine uO (um ?_);apply gF
 ·rfl
 ·intro hg;exact pf th30 th3 hb2
 apply gF
 ·rfl
 ·intro hg;try simp only [hg,ct,Bt]
  exact pl th3 hb2
 apply gF
 ·rfl
 ·intro hg;try simp only [hg,ct,Bt]
  exact pb
 refine uO (um ?_);apply gF
 ·rfl
 ·intro hg;exact pf th30 th3 hb2
 apply gF
 ·rfl
 ·intro hg;try simp only [hg,ct,Bt]
  exact pl th3 hb2
 apply gF
 ·rfl
 ·intro hg;try simp only [hg,ct,Bt]
  exact pb
 refine uO ?_;refine u_nil ?_;refine wc (fun hc5=>?_) (fun hc5=>?_) <;> try simp only [Q0,Q1,Q2,Q3,Q4,Q5,Q6,Q7,Q8,ge_iff_le,gt_iff_lt] at hc5
 ·
  refine wr (ua (u_nil (WP.ret ?_)));refine ret_ok rfl ?_ (by omega) (fun t ht=>(hk2 t (by omega)));clear hK3;refine congrArg D.bool ?_;have hcn:=coll_nil;have hdi:=@d_imp_i e.kind;have hl0:e.deltas.length=0↔e.deltas=[]:=List.length_eq_zero_iff;simp only [mayE,namesE,valuesE,List.length_map] at *
  grind
 ·
  refine WP.skip (hK3 _ (wr (uf th30 th3 hb2 ?_)));refine ul th3 hb2 ?_;refine u_step (o_pcall (s64b e.kind) rfl ?_);refine u_step (o_moveV (v:=.tup _) rfl ?_);refine ue (ue (ue ?_));refine ue (ue (ua (ua (ua (ua (ua (u_nil (WP.seq fun K8 hK8=>?_))))))));refine wr (um (uf th30 th9 hb2 ?_));refine ul th9 hb2 ?_;refine u_step (o_bin_str rfl (show _=SV.d (.str []) from rfl) rfl ?_);refine u_step (o_bin_neb rfl rfl th4 rfl ?_);refine um ?_;apply gF
  ·rfl
  ·intro hg;exact pm
  apply gF
  ·rfl
  ·intro hg;try simp only [hg,ct,Bt]
   exact pm
  apply u_guard
  ·exact GC.ct _ _
  ·intro hg;exact pf th30 th9 hb2
  apply u_guard
  ·exact GC.ct _ _
  ·intro hg;try simp only [hg,ct,Bt]
   exact pl th9 hb2
  apply u_guard
  ·exact GC.ct _ _
  ·intro hg;try simp only [hg,ct,Bt]
   refine o_pcall (s49 e.coll) rfl ⟨rfl,rfl,rfl⟩
  apply u_guard
  ·exact GC.ct _ _
  ·intro hg;try simp only [hg,ct,Bt]
   exact pN
  apply gF
  ·rfl
  ·intro hg;try simp only [hg,ct,Bt]
   exact pA
  refine uO (um ?_);apply gF
  ·rfl
  ·intro hg;exact pm
  apply gF
  ·rfl
  ·intro hg;exact pf th30 th9 hb2
  apply gF
  ·rfl
  ·intro hg;try simp only [hg,ct,Bt]
   exact pl th9 hb2
  apply gF
  ·rfl
  ·intro hg;try simp only [hg,ct,Bt]
   refine o_bin_str rfl (show _=SV.d (.str []) from rfl) rfl ⟨rfl,rfl,rfl⟩
  apply gF
  ·rfl
  ·intro hg;try simp only [hg,ct,Bt]
   refine o_bin_neb rfl rfl th4 rfl ⟨rfl,rfl,rfl⟩
  refine uO (um ?_);apply gF
  ·rfl
  ·intro hg;exact pm
  apply gF
  ·rfl
  ·intro hg;try simp only [hg,ct,Bt]
   exact pm
  apply u_guard
  ·exact GC.ct _ _
  ·intro hg;exact pf th30 th9 hb2
  apply u_guard
  ·exact GC.ct _ _
  ·intro hg;try simp only [hg,ct,Bt]
   exact pl th9 hb2
  apply u_guard
  ·exact GC.ct _ _
  ·intro hg;try simp only [hg,ct,Bt]
   refine o_pcall (s49 e.to) rfl ⟨rfl,rfl,rfl⟩
  apply u_guard
  ·exact GC.ct _ _
  ·intro hg;try simp only [hg,ct,Bt]
   exact pN
  apply u_guard
  ·exact GC.ct _ _
  ·intro hg;try simp only [hg,ct,Bt]
   exact pm
  apply u_guard
  ·exact GC.cf _ _
  ·intro hg;exact pf th30 th9 hb2
  apply u_guard
  ·exact GC.cf _ _
  ·intro hg;try simp only [hg,ct,Bt]
   exact pl th9 hb2
  apply u_guard
  ·exact GC.cf _ _
  ·intro hg;exact pf th30 th9 hb2
  apply u_guard
  ·exact GC.cf _ _
  ·intro hg;try simp only [hg,ct,Bt]
   exact pl th9 hb2
  apply u_guard
  ·exact GC.cf _ _
  ·intro hg;try simp only [hg,ct,Bt]
   exact ps
  apply u_guard
  ·exact GC.ct _ _
  ·intro hg;try simp only [hg,ct,Bt]
   exact pO
  apply gF
  ·rfl
  ·intro hg;try simp only [hg,ct,Bt]
   exact pA
  refine uO ?_;refine u_nil ?_;refine wc (fun hc10=>?_) (fun hc10=>?_) <;> try simp only [Q0,Q1,Q2,Q3,Q4,Q5,Q6,Q7,Q8,ge_iff_le,gt_iff_lt] at hc10
  ·
   refine wr (ua (u_nil (WP.ret ?_)));refine ret_ok rfl ?_ (by omega) (fun t ht=>(hk2 t (by omega)));clear hK3 hK8;refine congrArg D.bool ?_;have hcn:=coll_nil;have hdi:=@d_imp_i e.kind;have hl0:e.deltas.length=0↔e.deltas=[]:=List.length_eq_zero_iff;simp only [mayE,namesE,valuesE,List.length_map] at *
   grind
  ·
   refine WP.skip (hK8 _ (WP.seq fun K12 hK12=>?_));refine wr (um (uN (um ?_)));apply gT
   ·rfl
   ·intro hg;exact pf th30 th27 hb2
   apply gT
   ·rfl
   ·intro hg;try simp only [hg,ct,Bt]
    exact pg th27 hb2
   apply gT
   ·rfl
   ·intro hg;try simp only [hg,ct,Bt]
    refine o_pcall (pv (v:=e.id) (s65 e.id)) rfl ⟨rfl,rfl,rfl⟩
   apply gT
   ·rfl
   ·intro hg;try simp only [hg,ct,Bt]
    exact pN
   refine uA (um ?_);apply gF
   ·rfl
   ·intro hg;exact pm
   apply gF
   ·rfl
   ·intro hg;try simp only [hg,ct,Bt]
    exact pm
   apply u_guard
   ·exact GC.ct _ _
   ·intro hg;exact pf th30 th27 hb2
   apply u_guard
   ·exact GC.ct _ _
   ·intro hg;try simp only [hg,ct,Bt]
    exact pg th27 hb2
   apply u_guard
   ·exact GC.ct _ _
   ·intro hg;try simp only [hg,ct,Bt]
    refine o_pcall (pv (v:=e.id) (s66 e.id ok.ri ok.si)) rfl ⟨rfl,rfl,rfl⟩
   apply u_guard
   ·exact GC.ct _ _
   ·intro hg;try simp only [hg,ct,Bt]
    exact pb
   apply gF
   ·rfl
   ·intro hg;try simp only [hg,ct,Bt]
    exact pA
   refine uO ?_;refine u_nil ?_;refine wc (fun hc14=>?_) (fun hc14=>?_) <;> try simp only [Q0,Q1,Q2,Q3,Q4,Q5,Q6,Q7,Q8,ge_iff_le,gt_iff_lt] at hc14
   ·
    refine wr (ua (u_nil (WP.ret ?_)));refine ret_ok rfl ?_ (by omega) (fun t ht=>(hk2 t (by omega)));clear hK3 hK8 hK12;refine congrArg D.bool ?_;have hcn:=coll_nil;have hdi:=@d_imp_i e.kind;have hl0:e.deltas.length=0↔e.deltas=[]:=List.length_eq_zero_iff;simp only [mayE,namesE,valuesE,List.length_map] at *
    grind
   ·
    refine WP.skip (hK12 _ (WP.seq fun K16 hK16=>?_));refine wr (um (uN (um ?_)));apply gT
    ·rfl
    ·intro hg;exact pf th30 th27 hb2
    apply gT
    ·rfl
    ·intro hg;try simp only [hg,ct,Bt]
     exact pg th27 hb2
    apply gT
    ·rfl
    ·intro hg;try simp only [hg,ct,Bt]
     refine o_pcall (pv (v:=e.doc) (s65 e.doc)) rfl ⟨rfl,rfl,rfl⟩
    apply gT
    ·rfl
    ·intro hg;try simp only [hg,ct,Bt]
     exact pN
    refine uA (um ?_);apply gF
    ·rfl
    ·intro hg;exact pm
    apply gF
    ·rfl
    ·intro hg;try simp only [hg,ct,Bt]
     exact pm
    apply u_guard
    ·exact GC.ct _ _
    ·intro hg;exact pf th30 th27 hb2
    apply u_guard
    ·exact GC.ct _ _
    ·intro hg;try simp only [hg,ct,Bt]
     exact pg th27 hb2
    apply u_guard
    ·exact GC.ct _ _
    ·intro hg;exact pf th30 th27 hb2
    apply u_guard
    ·exact GC.ct _ _
    ·intro hg;try simp only [hg,ct,Bt]
     exact pg th27 hb2
    apply u_guard
    ·exact GC.ct _ _
    ·intro hg;try simp only [hg,ct,Bt]
     refine o_pcall (pvE (v:=e.doc) (w:=e.id) (s67 e.doc e.id ok.rd ok.sd)) rfl ⟨rfl,rfl,rfl⟩
    apply u_guard
    ·exact GC.ct _ _
    ·intro hg;try simp only [hg,ct,Bt]
     exact pN
    apply gF
    ·rfl
    ·intro hg;try simp only [hg,ct,Bt]
     exact pA
    refine uO (um ?_);apply gF
    ·rfl
    ·intro hg;exact pm
    apply gF
    ·rfl
    ·intro hg;try simp only [hg,ct,Bt]
     exact pN
    apply gF
    ·rfl
    ·intro hg;try simp only [hg,ct,Bt]
     exact pm
    apply u_guard
    ·exact GC.ct _ _
    ·intro hg;exact pf th30 th28 hb2
    apply u_guard
    ·exact GC.ct _ _
    ·intro hg;try simp only [hg,ct,Bt]
     exact pl th28 hb2
    apply u_guard
    ·exact GC.ct _ _
    ·intro hg;try simp only [hg,ct,Bt]
     exact pn th28
    apply u_guard
    ·exact GC.ct _ _
    ·intro hg;try simp only [hg,ct,Bt]
     exact pb
    apply gF
    ·rfl
    ·intro hg;try simp only [hg,ct,Bt]
     exact pA
    refine uO (um ?_);apply gF
    ·rfl
    ·intro hg;exact pm
    apply gF
    ·rfl
    ·intro hg;try simp only [hg,ct,Bt]
     exact pm
    apply u_guard
    ·exact GC.ct _ _
    ·intro hg;exact pf th30 th28 hb2
    apply u_guard
    ·exact GC.ct _ _
    ·intro hg;try simp only [hg,ct,Bt]
     exact pl th28 hb2
    apply u_guard
    ·exact GC.ct _ _
    ·intro hg;try simp only [hg,ct,Bt]
     refine o_pcall (s68 e.deltas ok.ds) rfl ⟨rfl,rfl,rfl⟩
    apply u_guard
    ·exact GC.ct _ _
    ·intro hg;try simp only [hg,ct,Bt]
     exact pN
    apply gF
    ·rfl
    ·intro hg;try simp only [hg,ct,Bt]
     exact pA
    refine uO ?_;refine u_nil ?_;refine wc (fun hc18=>?_) (fun hc18=>?_) <;> try simp only [Q0,Q1,Q2,Q3,Q4,Q5,Q6,Q7,Q8,ge_iff_le,gt_iff_lt] at hc18
    ·
     refine wr (ua (u_nil (WP.ret ?_)));refine ret_ok rfl ?_ (by omega) (fun t ht=>(hk2 t (by omega)));clear hK3 hK8 hK12 hK16;refine congrArg D.bool ?_;have hcn:=coll_nil;have hdi:=@d_imp_i e.kind;have hl0:e.deltas.length=0↔e.deltas=[]:=List.length_eq_zero_iff;simp only [mayE,namesE,valuesE,List.length_map] at *
     grind
    ·
     refine WP.skip (hK16 _ (wr (uf th30 th3 hb2 ?_)));refine ul th3 hb2 ?_;refine ub (um ?_);apply gF
     ·rfl
     ·intro hg;exact pf th30 th3 hb2
     apply gF
     ·rfl
     ·intro hg;try simp only [hg,ct,Bt]
      exact pl th3 hb2
     apply gF
     ·rfl
     ·intro hg;try simp only [hg,ct,Bt]
      exact pb
     apply gF
     ·rfl
     ·intro hg;try simp only [hg,ct,Bt]
      exact pm
     apply u_guard
     ·exact GC.ct _ _
     ·intro hg;exact pf th30 th3 hb2
     apply u_guard
     ·exact GC.ct _ _
     ·intro hg;try simp only [hg,ct,Bt]
      exact pl th3 hb2
     apply u_guard
     ·exact GC.ct _ _
     ·intro hg;try simp only [hg,ct,Bt]
      exact pb
     apply gF
     ·rfl
     ·intro hg;try simp only [hg,ct,Bt]
      exact pA
     refine uO (ua (u_nil (WP.ret ?_)));refine ret_ok rfl ?_ (by omega) (fun t ht=>(hk2 t (by omega)));clear hK3 hK8 hK12 hK16;refine congrArg D.bool ?_;have hcn:=coll_nil;have hdi:=@d_imp_i e.kind;have hl0:e.deltas.length=0↔e.deltas=[]:=List.length_eq_zero_iff;simp only [mayE,namesE,valuesE,List.length_map] at *
     grind
theorem pvv {P:Program} {f:FuncId} {v w:Val} {r:SV} (h:PSpec P f [.d (encV v),.d (encV w)] r):PSpec P f [.d (.agg (valCells v)),.d (.agg (valCells w))] r:=by rw [← encV_eq,← encV_eq];exact h
theorem dlt_same {x y:Dlt}:(x.kind != y.kind || x.n != y.n || !decide (x.path=y.path) || !sameV x.value y.value)=true↔¬ x=y:=by
 cases x;cases y;simp only [Dlt.mk.injEq,Bool.or_eq_true,bne_iff_ne,Bool.not_eq_true',decide_eq_false_iff_not,← Bool.not_eq_true,same_eq,ne_eq]
 grind
open Classical in
noncomputable def sameDs (a b:List Dlt):Bool:=decide (a=b)
open Classical in
noncomputable def sameE (a b:Etr):Bool:=decide (a=b)
theorem sameDs_ne {a b:List Dlt} (h:¬ a=b):sameDs a b=false:=by simp [sameDs,h]
theorem sameE_refl (a:Etr):sameE a a=true:=by simp [sameE]
theorem sameE_iff {a b:Etr}:sameE a b=true↔a.term=b.term∧a.kind=b.kind∧a.coll=b.coll∧a.to=b.to∧a.id=b.id∧a.doc=b.doc∧a.deltas=b.deltas∧a.session=b.session∧a.number=b.number:=by
 cases a;cases b;simp [sameE]
theorem sameDs_iff {a b:List Dlt}:sameDs a b=true↔a=b:=by simp [sameDs]
@[simp] theorem vc_len (v:Val):(valCells v).length=5:=by cases v;rfl
theorem fn37:FnOk Tryz.prog 37 69 [4] (bodyOf Tryz.f37):=⟨Tryz.f37,Tryz.func37,by kernel_rfl,by decide,by kernel_rfl,by kernel_rfl⟩
theorem s37 (a b:List Dlt):PSpec Tryz.prog 37 [.d (.sl 8 (a.map encD)),.d (.sl 8 (b.map encD))] (.d (.bool (sameDs a b))):=by
 refine PSpec.bd fun hbd=>?_;have hx:a.length≤9223372036854775807:=by simpa using hbd.1.1
 refine PSpec.of fn37 (by simp) fun o nk=>?_;refine wr ?_;refine ua ?_;refine u_nil ?_;refine WP.seq fun K2 hK2=>?_;refine wr ?_;refine um ?_;refine un th28 ?_;refine um ?_;refine un th28 ?_;refine ub ?_;refine u_nil ?_;refine wc (fun hc4=>?_) (fun hc4=>?_) <;> try simp only [Q0,Q1,Q2,Q3,Q4,Q5,Q6,Q7,Q8,ge_iff_le,gt_iff_lt] at hc4
 ·
  refine wr (ua (u_nil (WP.ret ?_)));refine ret_ok rfl ?_ (by omega) (fun _ _=>rfl);refine congrArg D.bool (sameDs_ne ?_).symm;rintro rfl;have hl:=hc4;simp at hl
 ·
  have hab:a.length=b.length:=by have:=hc4;(try simp at this);omega
  refine WP.skip (hK2 _ (WP.seq fun K6 hK6=>?_));refine wr (ua (u_nil (WP.block ?_)));refine WP.loopL (ι:=Nat) (fun i=>⟨al [(0,.d (.sl 8 (a.map encD))),(1,.d (.sl 8 (b.map encD))),(5,.d (.int .i64 i))],o,nk⟩) (fun i=>i≤a.length∧∀ (j:Nat) (hj:j < a.length) (hk:j < b.length),j < i→a[j]=b[j]) (fun i=>a.length - i) (fun i hA=>?_) 0 ?_ ?_
  ·
   obtain ⟨hle_i,hin_i⟩:=hA;refine WP.seq fun K8 hK8=>?_;refine wr ?_;refine um ?_;refine um ?_;refine un th28 ?_;refine ub ?_;refine u_nil ?_;refine wc (fun hc10=>?_) (fun hc10=>?_) <;> try simp only [Q0,Q1,Q2,Q3,Q4,Q5,Q6,Q7,Q8,ge_iff_le,gt_iff_lt] at hc10
   ·
    have hil:i < a.length:=by have:=hc10;(try simp at this);omega
    have hil2:i < b.length:=by omega
    refine WP.skip (hK8 _ (WP.seq fun K11 hK11=>?_));refine WP.block (wd ?_);refine dm ?_;refine dm ?_
    refine d_step (o_ia_map rfl rfl th28 rfl th83 rfl (by omega) ⟨rfl,rfl,rfl⟩) ?_
    refine dF th83 th3 ?_;refine dL th3 ?_;refine dm ?_;refine dm ?_
    refine d_step (o_ia_map rfl rfl th28 rfl th83 rfl (by omega) ⟨rfl,rfl,rfl⟩) ?_
    refine dF th83 th3 ?_;refine dL th3 ?_;refine db ?_;refine dm ?_;apply d_guard
    ·exact GC.f _
    ·intro hg;exact pm
    apply d_guard
    ·exact GC.f _
    ·intro hg;exact pm
    apply d_guard
    ·exact GC.f _
    ·intro hg;try simp only [hg,ct,Bt]
     have hg2:=hg;try simp only [Q0,Q1,Q2,Q3,Q4,Q5,Q6,Q9,Qa,Qb,Qc,Qd] at hg2
     refine o_ia_map rfl rfl th28 rfl th83 rfl (by omega) ⟨rfl,rfl,rfl⟩
    apply d_guard
    ·exact GC.f _
    ·intro hg;try simp only [hg,ct,Bt]
     exact pF th83 th3
    apply d_guard
    ·exact GC.f _
    ·intro hg;try simp only [hg,ct,Bt]
     exact pL th3
    apply d_guard
    ·exact GC.f _
    ·intro hg;exact pm
    apply d_guard
    ·exact GC.f _
    ·intro hg;exact pm
    apply d_guard
    ·exact GC.f _
    ·intro hg;try simp only [hg,ct,Bt]
     have hg2:=hg;try simp only [Q0,Q1,Q2,Q3,Q4,Q5,Q6,Q9,Qa,Qb,Qc,Qd] at hg2
     refine o_ia_map rfl rfl th28 rfl th83 rfl (by omega) ⟨rfl,rfl,rfl⟩
    apply d_guard
    ·exact GC.f _
    ·intro hg;try simp only [hg,ct,Bt]
     exact pF th83 th3
    apply d_guard
    ·exact GC.f _
    ·intro hg;try simp only [hg,ct,Bt]
     exact pL th3
    apply d_guard
    ·exact GC.f _
    ·intro hg;try simp only [hg,ct,Bt]
     exact pb
    refine dO ?_;refine dm ?_;apply d_guard
    ·exact GC.f _
    ·intro hg;exact pm
    apply d_guard
    ·exact GC.f _
    ·intro hg;exact pm
    apply d_guard
    ·exact GC.f _
    ·intro hg;try simp only [hg,ct,Bt]
     have hg2:=hg;try simp only [Q0,Q1,Q2,Q3,Q4,Q5,Q6,Q9,Qa,Qb,Qc,Qd] at hg2
     refine o_ia_map rfl rfl th28 rfl th83 rfl (by omega) ⟨rfl,rfl,rfl⟩
    apply d_guard
    ·exact GC.f _
    ·intro hg;try simp only [hg,ct,Bt]
     exact pF th83 th22
    apply d_guard
    ·exact GC.f _
    ·intro hg;try simp only [hg,ct,Bt]
     exact pL th22
    apply d_guard
    ·exact GC.f _
    ·intro hg;exact pm
    apply d_guard
    ·exact GC.f _
    ·intro hg;exact pm
    apply d_guard
    ·exact GC.f _
    ·intro hg;try simp only [hg,ct,Bt]
     have hg2:=hg;try simp only [Q0,Q1,Q2,Q3,Q4,Q5,Q6,Q9,Qa,Qb,Qc,Qd] at hg2
     refine o_ia_map rfl rfl th28 rfl th83 rfl (by omega) ⟨rfl,rfl,rfl⟩
    apply d_guard
    ·exact GC.f _
    ·intro hg;try simp only [hg,ct,Bt]
     exact pF th83 th22
    apply d_guard
    ·exact GC.f _
    ·intro hg;try simp only [hg,ct,Bt]
     exact pL th22
    apply d_guard
    ·exact GC.f _
    ·intro hg;try simp only [hg,ct,Bt]
     refine o_pcall (s91 (a[i].path) (b[i].path)) rfl ⟨rfl,rfl,rfl⟩
    apply d_guard
    ·exact GC.f _
    ·intro hg;try simp only [hg,ct,Bt]
     exact pN
    refine dO ?_;refine dm ?_;apply d_guard
    ·exact GC.f _
    ·intro hg;exact pm
    apply d_guard
    ·exact GC.f _
    ·intro hg;exact pm
    apply d_guard
    ·exact GC.f _
    ·intro hg;try simp only [hg,ct,Bt]
     have hg2:=hg;try simp only [Q0,Q1,Q2,Q3,Q4,Q5,Q6,Q9,Qa,Qb,Qc,Qd] at hg2
     refine o_ia_map rfl rfl th28 rfl th83 rfl (by omega) ⟨rfl,rfl,rfl⟩
    apply d_guard
    ·exact GC.f _
    ·intro hg;try simp only [hg,ct,Bt]
     exact pF th83 th27
    apply d_guard
    ·exact GC.f _
    ·intro hg;try simp only [hg,ct,Bt]
     exact pL th27
    apply d_guard
    ·exact GC.f _
    ·intro hg;exact pm
    apply d_guard
    ·exact GC.f _
    ·intro hg;exact pm
    apply d_guard
    ·exact GC.f _
    ·intro hg;try simp only [hg,ct,Bt]
     have hg2:=hg;try simp only [Q0,Q1,Q2,Q3,Q4,Q5,Q6,Q9,Qa,Qb,Qc,Qd] at hg2
     refine o_ia_map rfl rfl th28 rfl th83 rfl (by omega) ⟨rfl,rfl,rfl⟩
    apply d_guard
    ·exact GC.f _
    ·intro hg;try simp only [hg,ct,Bt]
     exact pF th83 th27
    apply d_guard
    ·exact GC.f _
    ·intro hg;try simp only [hg,ct,Bt]
     exact pL th27
    apply d_guard
    ·exact GC.f _
    ·intro hg;try simp only [hg,ct,Bt]
     refine o_pcall (pvv (s30 a[i].value b[i].value)) rfl ⟨rfl,rfl,rfl⟩
    apply d_guard
    ·exact GC.f _
    ·intro hg;try simp only [hg,ct,Bt]
     exact pN
    refine dO ?_;refine d_nil ?_;refine wc (fun hc13=>?_) (fun hc13=>?_) <;> try simp only [Q0,Q1,Q2,Q3,Q4,Q5,Q6,Q7,Q8,ge_iff_le,gt_iff_lt] at hc13
    ·
     refine wr (ua (u_nil (WP.ret ?_)));refine ret_ok rfl ?_ (by omega) (fun _ _=>rfl);refine congrArg D.bool (sameDs_ne ?_).symm;rintro rfl;have hl:=hc13;exact absurd rfl (dlt_same.1 hl)
    ·
     refine WP.skip (hK11 _ (WP.reg tabOk rfl ?_));refine um (ub (ua (u_nil ?_)));refine ⟨i+1,⟨by omega,?_⟩,by omega,?_⟩
     ·intro j hj hk h1;by_cases h2:j=i
      ·subst h2;have hl:=hc13;exact Classical.byContradiction fun hne=>by rw [dlt_same.2 hne] at hl;cases hl
      ·exact hin_i j hj hk (by omega)
     ·refine Le.al ?_;simp only [List.forall_mem_cons];exact ⟨rfl,rfl,cnt (by omega),by simp⟩
   ·
    refine WP.exit ?_;refine hK6 _ (wr (ua (u_nil (WP.ret ?_))));refine ret_ok rfl ?_ (by omega) (fun _ _=>rfl);refine congrArg D.bool ?_;exact (sameDs_iff.2 (List.ext_getElem hab fun j h1 h2=>hin_i j h1 h2 (by omega))).symm
  ·
   simp
  ·
   refine Le.al ?_;simp only [List.forall_mem_cons];exact ⟨rfl,rfl,rfl,by simp⟩
theorem fn46:FnOk Tryz.prog 46 66 [4] (bodyOf Tryz.f46):=⟨Tryz.f46,Tryz.func46,by kernel_rfl,by decide,by kernel_rfl,by kernel_rfl⟩
theorem s46 (a b:Etr):PSpec Tryz.prog 46 [.d (encE a),.d (encE b)] (.d (.bool (sameE a b))):=by
 refine PSpec.of fn46 (by simp) fun o nk=>?_;refine wr ?_;refine u_step (g_box rfl fun o2 hb2 hk2=>?_);refine u_step (g_box rfl fun o3 hb3 hk3=>?_);have hb2_3:=(hk3 _ (by omega)).trans hb2;refine ua (u_nil (wr (uf th30 th3 hb2_3 ?_)));refine ul th3 hb2_3 ?_;refine uf th30 th3 hb3 ?_;refine ul th3 hb3 ?_;refine ub (um ?_);apply gT
 ·rfl
 ·intro hg;exact pf th30 th3 hb2_3
 apply gT
 ·rfl
 ·intro hg;try simp only [hg,ct,Bt]
  exact pl th3 hb2_3
 apply gT
 ·rfl
 ·intro hg;exact pf th30 th3 hb3
 apply gT
 ·rfl
 ·intro hg;try simp only [hg,ct,Bt]
  exact pl th3 hb3
 apply gT
 ·rfl
 ·intro hg;try simp only [hg,ct,Bt]
  exact pb
 refine uA (um ?_);apply gT
 ·rfl
 ·intro hg;exact pf th30 th9 hb2_3
 apply gT
 ·rfl
 ·intro hg;try simp only [hg,ct,Bt]
  exact pl th9 hb2_3
 apply gT
 ·rfl
 ·intro hg;exact pf th30 th9 hb3
 apply gT
 ·rfl
 ·intro hg;try simp only [hg,ct,Bt]
  exact pl th9 hb3
 apply gT
 ·rfl
 ·intro hg;try simp only [hg,ct,Bt]
  exact ps
 refine uA (um ?_);apply gT
 ·rfl
 ·intro hg;exact pf th30 th9 hb2_3
 apply gT
 ·rfl
 ·intro hg;try simp only [hg,ct,Bt]
  exact pl th9 hb2_3
 apply gT
 ·rfl
 ·intro hg;exact pf th30 th9 hb3
 apply gT
 ·rfl
 ·intro hg;try simp only [hg,ct,Bt]
  exact pl th9 hb3
 apply gT
 ·rfl
 ·intro hg;try simp only [hg,ct,Bt]
  exact ps
 refine uA (um ?_);apply gT
 ·rfl
 ·intro hg;exact pf th30 th27 hb2_3
 apply gT
 ·rfl
 ·intro hg;try simp only [hg,ct,Bt]
  exact pg th27 hb2_3
 apply gT
 ·rfl
 ·intro hg;exact pf th30 th27 hb3
 apply gT
 ·rfl
 ·intro hg;try simp only [hg,ct,Bt]
  exact pg th27 hb3
 apply gT
 ·rfl
 ·intro hg;try simp only [hg,ct,Bt]
  refine o_pcall (pvv (s30 a.id b.id)) rfl ⟨rfl,rfl,rfl⟩
 refine uA (um ?_);apply gT
 ·rfl
 ·intro hg;exact pf th30 th27 hb2_3
 apply gT
 ·rfl
 ·intro hg;try simp only [hg,ct,Bt]
  exact pg th27 hb2_3
 apply gT
 ·rfl
 ·intro hg;exact pf th30 th27 hb3
 apply gT
 ·rfl
 ·intro hg;try simp only [hg,ct,Bt]
  exact pg th27 hb3
 apply gT
 ·rfl
 ·intro hg;try simp only [hg,ct,Bt]
  refine o_pcall (pvv (s30 a.doc b.doc)) rfl ⟨rfl,rfl,rfl⟩
 refine uA (um ?_);apply gT
 ·rfl
 ·intro hg;exact pf th30 th28 hb2_3
 apply gT
 ·rfl
 ·intro hg;try simp only [hg,ct,Bt]
  exact pl th28 hb2_3
 apply gT
 ·rfl
 ·intro hg;exact pf th30 th28 hb3
 apply gT
 ·rfl
 ·intro hg;try simp only [hg,ct,Bt]
  exact pl th28 hb3
 apply gT
 ·rfl
 ·intro hg;try simp only [hg,ct,Bt]
  refine o_pcall (s37 a.deltas b.deltas) rfl ⟨rfl,rfl,rfl⟩
 refine uA (um ?_);apply gT
 ·rfl
 ·intro hg;exact pf th30 th3 hb2_3
 apply gT
 ·rfl
 ·intro hg;try simp only [hg,ct,Bt]
  exact pl th3 hb2_3
 apply gT
 ·rfl
 ·intro hg;exact pf th30 th3 hb3
 apply gT
 ·rfl
 ·intro hg;try simp only [hg,ct,Bt]
  exact pl th3 hb3
 apply gT
 ·rfl
 ·intro hg;try simp only [hg,ct,Bt]
  exact pb
 refine uA (um ?_);apply gT
 ·rfl
 ·intro hg;exact pf th30 th3 hb2_3
 apply gT
 ·rfl
 ·intro hg;try simp only [hg,ct,Bt]
  exact pl th3 hb2_3
 apply gT
 ·rfl
 ·intro hg;exact pf th30 th3 hb3
 apply gT
 ·rfl
 ·intro hg;try simp only [hg,ct,Bt]
  exact pl th3 hb3
 apply gT
 ·rfl
 ·intro hg;try simp only [hg,ct,Bt]
  exact pb
 refine uA (ua (u_nil (WP.ret ?_)));refine ret_ok rfl ?_ (by omega) (fun t ht=>(hk3 t (by omega)).trans ((hk2 t (by omega))))
 skip
 refine congrArg D.bool ?_;rw [Bool.eq_iff_iff,sameE_iff];simp only [Bool.and_eq_true,beq_iff_eq,decide_eq_true_eq,sameDs_iff,same_eq]
 grind
end Go.Proofs.YtpkcbdhjnnnkbaaGreat.Abs

namespace Go.Proofs.YtpkcbdhjnnnkbaaGreat.Abs
open Go
section
variable (Θ:Tab) (nofr:Nat→Bool) (call:Nat→List SV→TM AO→Nat→Option XR)
def preD (l:List Oper) (s:XS):List Nat:=l.flatMap fun op=>preF nofr op.op s
def postD (l:List Oper) (s:XS):List Nat:=l.flatMap fun op=>postF op.op s
def xDrawF (ops:Array Oper) (s:XS):Option XS:=
 match s.frzs (preD nofr ops.toList s) with
 | s1=>match xDraw Θ call ops s1 with
  | some s'=>some s'
  | none=>match xDraw Θ call ops ((s1.frzs (postD ops.toList s1)).soft) with
   | some s'=>some s'
   | none=>match xDrawP Θ call ops s1 with
    | some s'=>some s'
    | none=>xDrawP Θ call ops ((s1.frzs (postD ops.toList s1)).soft)
end
def xRes (Θ:Tab):List ResultVar→XS→Option (List SV×XS)
 | [],s=>some ([],s)
 | .tmp t :: r,s=>match xRes Θ r s with
  | none=>none
  | some (vs,s')=>match s'.sl.get t with
   | none=>some (.any :: vs,s')
   | some v=>some (v :: vs,s')
 | .cell a t :: r,s=>match xRes Θ r s with
  | none=>none
  | some (vs,s')=>match s'.sl.get a with
   | some (.loc k f)=>match xld Θ s'.o.get t (.loc k f) with
    | some v=>some (v :: vs,s')
    | none=>none
   | _=>none
def cellsR (s:XS):List ResultVar→List Nat
 | []=>[]
 | .tmp _ :: r=>cellsR s r
 | .cell a _ :: r=>(match s.sl.get a with
  | some c=>rowsO s.o c
  | none=>[])++cellsR s r
theorem xRes_ok {Θ:Tab}:∀ {rs:List ResultVar} {s s':XS} {vs:List SV},xRes Θ rs s=some (vs,s')→s'=s∧ResL Θ s.st rs vs
 | [],s,s',vs,h=>by
  simp only [xRes,Option.some.injEq,Prod.mk.injEq] at h;obtain ⟨rfl,rfl⟩:=h;exact ⟨rfl,trivial⟩
 | .tmp t :: r,s,s',vs,h=>by
  simp only [xRes] at h;split at h
  ·cases h
  ·rename_i vs1 s1 h1;obtain ⟨rfl,h2⟩:=xRes_ok h1;split at h
   ·rename_i hg;simp only [Option.some.injEq,Prod.mk.injEq] at h;obtain ⟨rfl,rfl⟩:=h;exact ⟨rfl,(by show SV.any=(s1.sl.get t).getD .any;rw [hg];rfl),h2⟩
   ·rename_i v hg;simp only [Option.some.injEq,Prod.mk.injEq] at h;obtain ⟨rfl,rfl⟩:=h;exact ⟨rfl,(by show v=(s1.sl.get t).getD .any;rw [hg];rfl),h2⟩
 | .cell a t :: r,s,s',vs,h=>by
  simp only [xRes] at h;split at h
  ·cases h
  ·rename_i vs1 s1 h1;obtain ⟨rfl,h2⟩:=xRes_ok h1;split at h
   ·rename_i k f hg;split at h
    ·rename_i v hv;simp only [Option.some.injEq,Prod.mk.injEq] at h;obtain ⟨rfl,rfl⟩:=h;have hsl:s1.st.sl a=.loc k f:=by show (s1.sl.get a).getD .any=_;rw [hg];rfl
     refine ⟨rfl,⟨⟨k,f,hsl⟩,?_⟩,h2⟩;rw [hsl];exact xld_ok Θ hv rfl
    ·cases h
   ·cases h
def itB:Obj→Obj→Bool
 | .stringIter a i,.stringIter b j=>decide (a.data.toList=b.data.toList) && decide (i=j)
 | _,_=>false
theorem itB_ok {x y:Obj} (h:itB x y=true):x=y:=by
 unfold itB at h;split at h
 ·rename_i a i b j;simp only [Bool.and_eq_true,decide_eq_true_eq] at h;obtain ⟨h1,rfl⟩:=h;obtain ⟨⟨a⟩⟩:=a;obtain ⟨⟨b⟩⟩:=b;simp at h1;rw [h1]
 ·cases h
def kvB:List (D×D)→List (D×D)→Bool
 | [],[]=>true
 | (a,b) :: r,(c,d) :: q=>D.eqb a c && (D.eqb b d && kvB r q)
 | _,_=>false
theorem kvB_ok:∀ {x y:List (D×D)},kvB x y=true→x=y
 | [],[],_=>rfl
 | [],_ :: _,h=>by simp [kvB] at h
 | _ :: _,[],h=>by simp [kvB] at h
 | (a,b) :: r,(c,d) :: q,h=>by
  simp only [kvB,Bool.and_eq_true] at h;rw [D.eqb_ok _ _ h.1,D.eqb_ok _ _ h.2.1,kvB_ok h.2.2]
def AO.eqb:AO→AO→Bool
 | .box a,.box b=>SV.eqbs a b
 | .row e z xs,.row e2 z2 ys=>decide (e=e2) && (decide (z=z2) && D.eqbs xs ys)
 | .raw (.ob a),.raw (.ob b)=>itB a b
 | .raw (.map a),.raw (.map b)=>kvB a b
 | _,_=>false
theorem AO.eqb_ok {x y:AO} (h:AO.eqb x y=true):x=y:=by
 unfold AO.eqb at h;split at h
 ·rw [SV.eqbs_ok h]
 ·simp only [Bool.and_eq_true,decide_eq_true_eq] at h;obtain ⟨rfl,rfl,h⟩:=h;rw [D.eqbs_ok _ _ h]
 ·rw [itB_ok h]
 ·rw [kvB_ok h]
 ·cases h
def tmB:TM AO→TM AO→Bool
 | .e,.e=>true
 | .n none l r,.n none l2 r2=>tmB l l2 && tmB r r2
 | .n (some v) l r,.n (some v2) l2 r2=>AO.eqb v v2 && (tmB l l2 && tmB r r2)
 | _,_=>false
theorem tmB_ok:∀ {x y:TM AO},tmB x y=true→x=y
 | .e,.e,_=>rfl
 | .e,.n _ _ _,h=>by simp [tmB] at h
 | .n none l r,.n none l2 r2,h=>by
  simp only [tmB,Bool.and_eq_true] at h;rw [tmB_ok h.1,tmB_ok h.2]
 | .n (some v) l r,.n (some v2) l2 r2,h=>by
  simp only [tmB,Bool.and_eq_true] at h;rw [AO.eqb_ok h.1,tmB_ok h.2.1,tmB_ok h.2.2]
 | .n none _ _,.n (some _) _ _,h=>by simp [tmB] at h
 | .n (some _) _ _,.n none _ _,h=>by simp [tmB] at h
 | .n (some _) _ _,.e,h=>by simp [tmB] at h
 | .n none _ _,.e,h=>by simp [tmB] at h
structure ME where
 f:Nat
 a:List SV
 o:TM AO
 k:Nat
 r:SV
 o2:TM AO
 k2:Nat
structure Env where
 Θ:Tab
 tb:Nat→Option Func
 nat:Nat→List SV→Option D
 nofr:Nat→Bool
 pure:Nat→Bool
 memo:Nat→List SV→TM AO→Nat→Option XR
structure EnvOk (P:Program) (X:Env):Prop where
 hΘ:TabOk P X.Θ
 tb : ∀ f fn, X.tb f = some fn → P.funcs[f]? = some fn ∧ (fn.name == "runtime.NumGoroutine") = false
 nat:∀ f asx d,X.nat f asx=some d→PSpec P f asx (.d d)
 mix:P.follows .mixedOrders=true
 memo:CallOk P X.memo
def dataL:List SV→Bool
 | []=>true
 | .d _ :: r=>dataL r
 | _=>false
def dataR:SV→Bool
 | .d _=>true
 | .tup xs=>dataL xs
 | _=>false
def rowsR:List SV→List Nat
 | []=>[]
 | .ag cs :: r=>rowsL cs++rowsR r
 | c :: r=>rowsV c++rowsR r
def SV.dd:SV→SV
 | .dx z xs=>.d (.sl z xs)
 | .ag cs=>match allD cs with
  | some ds=>if ds.all D.leaf=true then .d (.agg ds) else .ag cs
  | none=>.ag cs
 | c=>c
theorem SR.dd {w:World} {S:Nat→Prop} {γ:Nat→Value} {o:Nat→Option AO} {c:SV} {v:Value} (hc:SR w S γ o c v):SR w S γ o c.dd v:=by
 cases c with
 | dx z xs=>cases hc with
  | dx _ _ _ hr _=>exact .d _ _ hr
 | ag cs=>
  simp only [SV.dd];split
  ·rename_i ds hds;split
   ·rename_i hl;cases hc with
    | ag _ vs hv hr h1=>
     have he:=allD_spec hds;subst he;refine .d _ _ (.agg ds vs hl (by simpa using hv) fun i x u hx hu=>?_);have:=hr i (.d x) u (by rw [List.getElem?_map,hx];rfl) hu;cases this with
     | d _ _ hq=>exact hq
   ·exact hc
  ·exact hc
 | _=>exact hc
theorem SV.dd_lt {c:SV} {n:Nat} (hc:c.lt n):c.dd.lt n:=by
 cases c with
 | ag cs=>
  simp only [SV.dd];split
  ·split
   ·trivial
   ·exact hc
  ·exact hc
 | _=>first | exact hc | trivial
def XS.dd (s:XS):XS:=⟨s.sl.mapT SV.dd,s.o,s.nk⟩
theorem XS.dd_ok {E:Ent} {s:XS} {a:Act} {w:World} (h:Rel E s.st a w):Rel E s.dd.st a w:=by
 obtain ⟨S,γ,h⟩:=h;have e:∀ u,(s.dd.st.sl u)=(s.st.sl u).dd:=fun u=>by
  simp only [XS.dd,XS.st,TM.get_mapT];cases s.sl.get u <;> rfl
 exact ⟨S,γ,h.sto,h.tr,fun u=>by rw [e];exact (h.sl u).dd,fun u=>by rw [e];exact SV.dd_lt (h.slt u),h.df,h.nn⟩
def XS.tame (Θ:Tab) (rs:List ResultVar) (s:XS):XS:=
 match xRes Θ rs s with
 | some (vs,_)=>(s.frzs (rowsR vs)).dd
 | none=>s
theorem XS.tame_ok {Θ:Tab} {rs:List ResultVar} {E:Ent} {s:XS} {a:Act} {w:World} (h:Rel E s.st a w):Rel E (s.tame Θ rs).st a w:=by
 unfold XS.tame;split
 ·exact XS.dd_ok (XS.frzs_ok _ h)
 ·exact h
mutual
def xCall (X:Env):Nat→Nat→List SV→TM AO→Nat→Option XR
  | 0,_,_,_,_=>none
  | m+1,f,asx,o,nk=>match X.memo f asx o nk with
    | some r=>some r
    | none=>match X.nat f asx with
      | some d=>some (.d d,o,nk)
      | none=>bif X.pure f && dataL asx then (match xBody X m true f asx .e 0 with
          | some (r,_,_)=>bif dataR r then some (r,o,nk) else none
          | none=>none)
        else xBody X m false f asx o nk
def xBody (X:Env):Nat→Bool→Nat→List SV→TM AO→Nat→Option XR
  | 0,_,_,_,_,_=>none
  | m+1,fz,f,asx,o,nk=>match X.tb f with
      | none=>none
      | some fn=>match fn.body with
        | none=>none
        | some c=>bif Nat.ble asx.length fn.ntmps then match xC X m fn.ntmps c ⟨TM.ofList asx,o,nk⟩ with
            | none=>none
            | some (e,s)=>match (match e with
                | .normal=>true
                | .ret=>true
                | _=>false) with
              | false=>none
              | true=>match xRes X.Θ fn.results.toList (match fz with
                    | true=>s.tame X.Θ fn.results.toList
                    | false=>s) with
                | some (vs,s')=>some (tupOf vs,s'.o,s'.nk)
                | none=>match s.frzs (cellsR s fn.results.toList) with
                  | s1=>match xRes X.Θ fn.results.toList s1 with
                    | some (vs,s')=>some (tupOf vs,s'.o,s'.nk)
                    | none=>none
          else none
def xC (X:Env):Nat→Nat→Code→XS→Option (Exit×XS)
  | 0,_,_,_=>none
  | m+1,n,c,s=>match c with
    | .skip=>some (.normal,s)
    | .ret=>some (.ret,s)
    | .exit id=>some (.exit id,s)
    | .seq x y=>match xC X m n x s with
      | none=>none
      | some (e,s')=>match e with
        | .normal=>xC X m n y s'
        | e=>some (e,s')
    | .block id c=>match xC X m n c s with
      | none=>none
      | some (e,s')=>match e with
        | .exit id'=>bif Nat.beq id' id then some (.normal,s') else some (.exit id',s')
        | e=>some (e,s')
    | .cond x c d=>match xev s x with
      | .d (.bool true)=>xC X m n c s
      | .d (.bool false)=>xC X m n d s
      | _=>none
    | .loop c=>match xC X m n c s with
      | none=>none
      | some (e,s')=>match e with
        | .normal=>xC X m n (.loop c) s'
        | e=>some (e,s')
    | .scope c=>match xC X m n c s with
      | none=>none
      | some (e,s')=>match e with
        | .goto _=>none
        | e=>some (e,s')
    | .region _ ops drawn=>bif ops.toList.all fun o=>dstOk n o.dst then match drawn with
        | false=>match xOps X.Θ X.nofr (xCall X m) ops ops.toList s with
          | some s'=>some (.normal,s')
          | none=>none
        | true=>match xDrawF X.Θ X.nofr (xCall X m) ops s with
          | some s'=>some (.normal,s')
          | none=>none
      else none
    | _=>none
end
def Ran (P:Program) (n:Nat) (c:Code) (s:XS) (e:Exit) (s':XS):Prop:=∀ E a w,E.n=n→Rel E s.st a w→c.wp P (fun e2 a2 w2=>e2=e∧Rel E s'.st a2 w2) a w
theorem xDrawF_ok {P:Program} {Θ:Tab} {nofr:Nat→Bool} {call:Nat→List SV→TM AO→Nat→Option XR} {n:Nat} (hΘ:TabOk P Θ) (hm:P.follows .mixedOrders=true) (hc:CallOk P call) {id:Nat} {ops:Array Oper} {s s':XS} (hd:(ops.toList.all fun o=>dstOk n o.dst)=true)
    (h:xDrawF Θ nofr call ops s=some s'):Ran P n (.region id ops true) s .normal s':=by
  have key:∀ {s1:XS},xDraw Θ call ops s1=some s'→∀ E a w,E.n=n→Rel E s1.st a w→(Code.region id ops true).wp P (fun e2 a2 w2=>e2=.normal∧Rel E s'.st a2 w2) a w:=by
    intro s1 h1 E a w he hr;have:=xDraw_ok (Θ:=Θ) (call:=call) (P:=P) (n:=n) (k0:=E.nk) (Q:=fun e s2=>e=.normal∧s2=s'.st) (id:=id) hΘ hm hc hd h1 ⟨rfl,rfl⟩ E a w he rfl hr;exact Go.wp_mono this (by rintro e a' w' ⟨s2,h2,rfl,rfl⟩;exact ⟨rfl,h2⟩)
  have keyP:∀ {s1:XS},xDrawP Θ call ops s1=some s'→∀ E a w,E.n=n→Rel E s1.st a w→(Code.region id ops true).wp P (fun e2 a2 w2=>e2=.normal∧Rel E s'.st a2 w2) a w:=by
    intro s1 h1 E a w he hr;have:=xDrawP_ok (Θ:=Θ) (call:=call) (P:=P) (n:=n) (k0:=E.nk) (Q:=fun e s2=>e=.normal∧s2=s'.st) (id:=id) hΘ hm hc hd h1 ⟨rfl,rfl⟩ E a w he rfl hr;exact Go.wp_mono this (by rintro e a' w' ⟨s2,h2,rfl,rfl⟩;exact ⟨rfl,h2⟩)
  intro E a w he hr;unfold xDrawF at h;simp only at h;have hr1:=XS.frzs_ok (preD nofr ops.toList s) hr;split at h
  · rename_i s2 h2;simp only [Option.some.injEq] at h;subst h;exact key h2 E a w he hr1
  · split at h
    · rename_i s2 h2;simp only [Option.some.injEq] at h;subst h;exact key h2 E a w he (XS.soft_ok (XS.frzs_ok _ hr1))
    · split at h
      · rename_i s2 h2;simp only [Option.some.injEq] at h;subst h;exact keyP h2 E a w he hr1
      · exact keyP h E a w he (XS.soft_ok (XS.frzs_ok _ hr1))
theorem cond_bool {E:Ent} {s:XS} {a:Act} {w:World} {x:Operand} {b:Bool} (hr:Rel E s.st a w) (h:xev s x=.d (.bool b)):a.eval x=.bool b:=by
 obtain ⟨S,γ,hr⟩:=hr;have h1:=hr.fr.ev x;rw [← xev_eq,h] at h1;generalize a.eval x=u at h1;cases h1 with
 | d _ _ h2=>cases h2;rfl
theorem xC_loop {P:Program} {X:Env}:∀ (m:Nat),(∀ k,k < m→∀ n c s e s',xC X k n c s=some (e,s')→Ran P n c s e s')→∀ n c s e s',xC X m n (.loop c) s=some (e,s')→∀ E,E.n=n→
    ∃ k,∀ a w,Rel E s.st a w→Code.rounds P c (fun e2 a2 w2=>e2=e∧Rel E s'.st a2 w2) k a w
  | 0,_,n,c,s,e,s',h,_,_=>by simp [xC] at h
  | m+1,ih,n,c,s,e,s',h,E,he=>by
    simp only [xC] at h;cases hb:xC X m n c s with
    | none=>rw [hb] at h;cases h
    | some p=>
      obtain ⟨e1,s1⟩:=p;rw [hb] at h;have h1:=ih m (by omega) _ _ _ _ _ hb E;cases e1 with
      | normal=>
        simp only at h;obtain ⟨k,hk⟩:=xC_loop m (fun k hk=>ih k (by omega)) n c s1 e s' h E he;refine ⟨k+1,fun a w hr=>Go.wp_mono (h1 a w he hr) ?_⟩;rintro e2 a2 w2 ⟨rfl,h2⟩;exact hk a2 w2 h2
      | _=>
        simp only [Option.some.injEq,Prod.mk.injEq] at h;obtain ⟨rfl,rfl⟩:=h;refine ⟨1,fun a w hr=>Go.wp_mono (h1 a w he hr) ?_⟩;rintro e2 a2 w2 ⟨rfl,h2⟩;exact ⟨rfl,h2⟩
theorem of_list_st (asx:List SV) (o:TM AO) (nk:Nat):(XS.mk (TM.ofList asx) o nk).st={ sl:=slots asx,o:=o.get,nk:=nk }:=by
 simp only [XS.st,St.mk.injEq,and_true];funext u;rw [TM.get_ofList];simp [slots]
theorem ret_res {P:Program} {Θ:Tab} {E:Ent} {s s2:XS} {rs:List ResultVar} {vs:List SV} {e:Exit} {a:Act} {w:World} (he:e=.normal∨e=.ret) (h:xRes Θ rs s=some (vs,s2)) (hr:Rel E s.st a w) :
    ∃ s3,Rel E s3 a w∧retC Θ rs (fun r2 o2 n2=>r2=tupOf vs∧o2=s2.o.get∧n2=s2.nk) e s3:=by
  obtain ⟨rfl,h2⟩:=xRes_ok h;refine ⟨_,hr,?_⟩;rcases he with rfl | rfl <;> exact ⟨vs,h2,rfl,rfl,rfl⟩
theorem dataL_d:∀ {asx:List SV},dataL asx=true→∀ (i:Nat) (c:SV),asx[i]?=some c→∃ x,c=.d x
 | [],_,i,c,h=>by simp at h
 | .d x :: r,_,0,c,h=>by simp at h;exact ⟨x,h.symm⟩
 | .d x :: r,hd,i+1,c,h=>dataL_d (asx:=r) (by simpa [dataL] using hd) i c (by simpa using h)
 | .loc _ _ :: r,hd,i,c,h=>by simp [dataL] at hd
 | .row _ :: r,hd,i,c,h=>by simp [dataL] at hd
 | .el _ :: r,hd,i,c,h=>by simp [dataL] at hd
 | .rel _ _ _ :: r,hd,i,c,h=>by simp [dataL] at hd
 | .clo _ _ _ :: r,hd,i,c,h=>by simp [dataL] at hd
 | .tup _ :: r,hd,i,c,h=>by simp [dataL] at hd
 | .raw _ :: r,hd,i,c,h=>by simp [dataL] at hd
 | .any :: r,hd,i,c,h=>by simp [dataL] at hd
 | .view _ _ _ _ :: r,hd,i,c,h=>by simp [dataL] at hd
 | .dx _ _ :: r,hd,i,c,h=>by simp [dataL] at hd
 | .ag _ :: r,hd,i,c,h=>by simp [dataL] at hd
theorem sr_data {w w':World} {S S':Nat→Prop} {γ γ':Nat→Value} {o o':Nat→Option AO} {r:SV} {v:Value} (h:SR w S γ o r v) (hd:dataR r=true) (hS:∀ k,S k→S' k):SR w S' γ' o' r v∧∀ m,r.lt m:=by
 cases h with
 | d x _ hr=>exact ⟨.d _ _ (hr.mono hS fun _ _=>rfl),fun _=>trivial⟩
 | tup xs vs hv hr=>
  have hd:dataL xs=true:=hd;refine ⟨.tup xs vs hv fun i c u hc hu=>?_,fun m=>lts_of fun i c hc=>?_⟩
  ·obtain ⟨x,rfl⟩:=dataL_d hd i c hc;cases hr i _ u hc hu with
   | d _ _ hr=>exact .d _ _ (hr.mono hS fun _ _=>rfl)
  ·obtain ⟨x,rfl⟩:=dataL_d hd i c hc;trivial
 | _=>simp [dataR] at hd
theorem Spec.closeR {P:Program} {f:FuncId} {asx:List SV} {x:SV} (ha:dataL asx=true) (hx:dataR x=true) (h:Spec P f asx (fun _=>none) 0 fun r _ _=>r=x):PSpec P f asx x:=by
 intro o nk w S γ vs h1 h2 h3 h4;have hd:∀ (i:Nat) (c:SV) (v:Value),asx[i]?=some c→vs[i]?=some v→SR w S γ (fun _=>none) c v:=fun i c v hc hv=>by
  have hr:=h3 i c v hc hv;obtain ⟨y,rfl⟩:=dataL_d ha i c hc;cases hr with
  | d _ _ hr=>exact .d _ _ hr
 have hl:SV.lts 0 asx:=lts_of fun i c hc=>by
  obtain ⟨d,rfl⟩:=dataL_d ha i c hc;trivial
 have hs:Sto w S γ (fun _=>none) 0:=⟨h1.s_lt,fun _ _ h=>(by cases h),fun _ _ h=>(by cases h),fun _ _ _ _ h=>(by cases h),fun _ _ h=>(by cases h),fun _ _ _ h=>(by cases h),fun _ _ _ _ _ _ h=>(by cases h)⟩;refine (h w S γ vs hs h2 hd hl).mono ?_;rintro v w' ⟨r,o',nk',S',γ',rfl,k1,k2,k3,k4⟩;have hk:∀ k,k < w.heap.size→w'.heap[k]?=w.heap[k]?:=fun k hk=>k2.kept k hk (by rintro ⟨t,x,ht,_⟩;cases ht);obtain ⟨m1,m2⟩:=h1.more (w':=w') (fun k=>w.heap.size≤k∧k < w'.heap.size) (fun _ h=>h) k2.os k2.tape k2.output k2.size hk;have g:=sr_data (w':=w) (γ':=γ) (o':=o) (S':=fun k=>S k∨(w.heap.size≤k∧k < w'.heap.size)) k3 hx (fun k hk=>by
  rcases k2.s_new k hk with h | h | ⟨t,x,ht,_⟩
  ·exact .inl h
  ·exact .inr ⟨h,k1.s_lt k hk⟩
  ·cases ht)
 exact ⟨_,o,nk,_,γ,⟨rfl,rfl,rfl⟩,m1,m2,g.1,g.2 _⟩
theorem dataL_map:∀ xs:List D,dataL (xs.map .d)=true
 | []=>rfl
 | _ :: r=>dataL_map r
theorem Spec.close {P:Program} {f:FuncId} {xs:List D} {x:D} (h:Spec P f (xs.map .d) (fun _=>none) 0 fun r _ _=>r=.d x):PSpec P f (xs.map .d) (.d x):=Spec.closeR (dataL_map xs) rfl h
theorem xC_ok {P:Program} {X:Env} (hX:EnvOk P X):∀ m,(∀ n c s e s',xC X m n c s=some (e,s')→Ran P n c s e s')∧CallOk P (xCall X m)∧∀ fz,CallOk P (xBody X m fz):=by
 intro m
 induction m using Nat.strongRecOn with
 | _ m ih=>
  cases m with
  | zero=>exact ⟨fun n c s e s' h=>by simp [xC] at h,fun f asx o nk r o' nk' h=>by simp [xCall] at h,fun fz f asx o nk r o' nk' h=>by simp [xBody] at h⟩
  | succ m=>
   obtain ⟨ihC,ihF,ihB⟩:=ih m (by omega);refine ⟨?_,?_,?_⟩
   ·intro n c s e s' h;cases c with
    | skip=>
     simp only [xC,Option.some.injEq,Prod.mk.injEq] at h;obtain ⟨rfl,rfl⟩:=h;exact fun E a w he hr=>wp_skip ⟨rfl,hr⟩
    | ret=>
     simp only [xC,Option.some.injEq,Prod.mk.injEq] at h;obtain ⟨rfl,rfl⟩:=h;exact fun E a w he hr=>wp_ret ⟨rfl,hr⟩
    | exit id=>
     simp only [xC,Option.some.injEq,Prod.mk.injEq] at h;obtain ⟨rfl,rfl⟩:=h;exact fun E a w he hr=>wp_exit ⟨rfl,hr⟩
    | seq x y=>
     simp only [xC] at h;cases hb:xC X m n x s with
     | none=>rw [hb] at h;cases h
     | some p=>
      obtain ⟨e1,s1⟩:=p;rw [hb] at h;have h1:=ihC _ _ _ _ _ hb;intro E a w he hr;refine wp_seq (Go.wp_mono (h1 E a w he hr) ?_);rintro e2 a2 w2 ⟨rfl,h2⟩;cases e2 with
      | normal=>exact ihC _ _ _ _ _ h E a2 w2 he h2
      | _=>
       simp only [Option.some.injEq,Prod.mk.injEq] at h;obtain ⟨rfl,rfl⟩:=h;exact ⟨rfl,h2⟩
    | block id c=>
     simp only [xC] at h;cases hb:xC X m n c s with
     | none=>rw [hb] at h;cases h
     | some p=>
      obtain ⟨e1,s1⟩:=p;rw [hb] at h;have h1:=ihC _ _ _ _ _ hb;intro E a w he hr;refine wp_block (Go.wp_mono (h1 E a w he hr) ?_);rintro e2 a2 w2 ⟨rfl,h2⟩;cases e2 with
      | exit id'=>
       simp only at h;show if id'=id then _ else _
       by_cases hid:id'=id
       ·subst hid;rw [if_pos rfl];simp only [Nat.beq_refl,cond_true,Option.some.injEq,Prod.mk.injEq] at h;obtain ⟨rfl,rfl⟩:=h;exact ⟨rfl,h2⟩
       ·rw [if_neg hid];rw [TM.beq_cond,if_neg hid] at h;simp only [Option.some.injEq,Prod.mk.injEq] at h;obtain ⟨rfl,rfl⟩:=h;exact ⟨rfl,h2⟩
      | _=>
       simp only [Option.some.injEq,Prod.mk.injEq] at h;obtain ⟨rfl,rfl⟩:=h;exact ⟨rfl,h2⟩
    | cond x c d=>
     simp only [xC] at h;intro E a w he hr;split at h
     ·rename_i hx;exact wp_cond_true (cond_bool hr hx) (ihC _ _ _ _ _ h E a w he hr)
     ·rename_i hx;exact wp_cond_false (cond_bool hr hx) (ihC _ _ _ _ _ h E a w he hr)
     ·cases h
    | loop c=>
     intro E a w he hr;obtain ⟨k,hk⟩:=xC_loop (m+1) (fun k hk=>(ih k hk).1) n c s e s' h E he;exact wp_loop_rounds k (hk a w hr)
    | scope c=>
     simp only [xC] at h;cases hb:xC X m n c s with
     | none=>rw [hb] at h;cases h
     | some p=>
      obtain ⟨e1,s1⟩:=p;rw [hb] at h;have h1:=ihC _ _ _ _ _ hb;intro E a w he hr;refine wp_scope_straight (Go.wp_mono (h1 E a w he hr) ?_);rintro e2 a2 w2 ⟨rfl,h2⟩;cases e2 <;> first | (cases h;done) | (simp only [Option.some.injEq,Prod.mk.injEq] at h;obtain ⟨rfl,rfl⟩:=h;exact ⟨rfl,h2⟩)
    | region id ops drawn=>
     unfold xC at h;simp only at h;cases hd:(ops.toList.all fun o=>dstOk n o.dst) with
     | false=>rw [hd] at h;cases h
     | true=>
      rw [hd] at h;simp only [cond_true] at h;cases drawn with
      | false=>
       simp only at h;split at h
       ·rename_i s1 hs1;simp only [Option.some.injEq,Prod.mk.injEq] at h;obtain ⟨rfl,rfl⟩:=h;intro E a w he hr;refine wp_region_list ?_;exact xOps_ok hX.hΘ ihF (fun a w hr=>⟨rfl,hr⟩) _ _ a w (by rw [he];exact hd) hr hs1
       ·cases h
      | true=>
       simp only at h;split at h
       ·rename_i s1 hs1;simp only [Option.some.injEq,Prod.mk.injEq] at h;obtain ⟨rfl,rfl⟩:=h;exact xDrawF_ok hX.hΘ hX.mix ihF hd hs1
       ·cases h
    | _=>simp [xC] at h
   ·intro f asx o nk r o' nk' h;simp only [xCall] at h;split at h
    ·rename_i r0 hd;simp only [Option.some.injEq] at h;subst h;exact hX.memo f asx o nk r o' nk' hd
    split at h
    ·rename_i d hd;simp only [Option.some.injEq,Prod.mk.injEq] at h;obtain ⟨rfl,rfl,rfl⟩:=h;exact hX.nat f asx d hd o.get nk
    ·cases hp:(X.pure f && dataL asx) with
     | false=>
      rw [hp] at h;exact ihB false f asx o nk r o' nk' h
     | true=>
      rw [hp] at h;simp only [cond_true] at h;simp only [Bool.and_eq_true] at hp;cases hb:xBody X m true f asx .e 0 with
      | none=>rw [hb] at h;cases h
      | some q=>
       obtain ⟨r1,o1,k1⟩:=q;rw [hb] at h;simp only at h;cases hd:dataR r1 with
       | false=>rw [hd] at h;cases h
       | true=>
        rw [hd] at h;simp only [cond_true,Option.some.injEq,Prod.mk.injEq] at h;obtain ⟨rfl,rfl,rfl⟩:=h;have hs:=ihB true f asx .e 0 _ _ _ hb;have he:(TM.e:TM AO).get=fun _=>none:=by funext u;rfl
        rw [he] at hs;exact Spec.closeR hp.2 hd (hs.mono fun r2 o2 n2 h=>h.1) o.get nk
   ·intro fz f asx o nk r o' nk' h;simp only [xBody] at h;split at h
    ·cases h
    ·rename_i fn hfn;split at h
     ·cases h
     ·rename_i c hbody;cases hle:Nat.ble asx.length fn.ntmps with
      | false=>rw [hle] at h;cases h
      | true=>
       rw [hle] at h;simp only [cond_true] at h;split at h
       ·cases h
       ·rename_i e s1 hrun;have hrun:=ihC _ _ _ _ _ hrun;split at h
        ·cases h
        ·rename_i he;have he:e=.normal∨e=.ret:=by cases e <;> simp_all
         obtain ⟨k1,k2⟩:=hX.tb f fn hfn;refine Spec.of_bodyC hX.hΘ (rs:=fn.results.toList) (c:=c) (n:=fn.ntmps) ⟨fn,k1,hbody,k2,rfl,rfl⟩ (Nat.le_of_ble_eq_true hle) ?_;rw [← of_list_st];intro E a w hn _ hr;refine Go.wp_mono (hrun E a w hn hr) ?_;rintro e2 a2 w2 ⟨rfl,h2⟩;split at h
         ·rename_i vs s2 hres;simp only [Option.some.injEq,Prod.mk.injEq] at h;obtain ⟨rfl,rfl,rfl⟩:=h;cases fz with
          | true=>exact ret_res (P:=P) he hres (XS.tame_ok h2)
          | false=>exact ret_res (P:=P) he hres h2
         ·split at h
          ·rename_i vs s2 hres;simp only [Option.some.injEq,Prod.mk.injEq] at h;obtain ⟨rfl,rfl,rfl⟩:=h;exact ret_res (P:=P) he hres (XS.frzs_ok _ h2)
          ·cases h
def isD (x:D):Option XR→Bool
 | some (.d y,_,_)=>D.eqb x y
 | _=>false
theorem PSpec.run {P:Program} {X:Env} (hX:EnvOk P X) (m:Nat) {f:FuncId} {xs:List D} {x:D} (h:isD x (xCall X m f (xs.map .d) .e 0)=true):PSpec P f (xs.map .d) (.d x):=by
 refine Spec.close ?_;cases hx:xCall X m f (xs.map .d) .e 0 with
 | none=>rw [hx] at h;cases h
 | some p=>
  obtain ⟨r,o',nk'⟩:=p;rw [hx] at h;have hs:=(xC_ok hX m).2.1 _ _ _ _ _ _ _ hx;have he:(TM.e:TM AO).get=fun _=>none:=by funext u;rfl
  rw [he] at hs;refine hs.mono ?_;rintro r2 o2 n2 ⟨rfl,_,_⟩;cases r2 <;> simp only [isD] at h <;> try (cases h;done)
  rw [D.eqb_ok _ _ h]
def isR (r:SV) (o2:TM AO) (k2:Nat):Option XR→Bool
 | some (r',o',k')=>Nat.beq k2 k' && (SV.eqb r r' && tmB o2 o')
 | _=>false
theorem ME.run {P:Program} {X:Env} (hX:EnvOk P X) (m:Nat) (e:ME) (h:isR e.r e.o2 e.k2 (xCall X m e.f e.a e.o e.k)=true):Spec P e.f e.a e.o.get e.k fun r2 o2 n2=>r2=e.r∧o2=e.o2.get∧n2=e.k2:=by
 cases hx:xCall X m e.f e.a e.o e.k with
 | none=>rw [hx] at h;cases h
 | some p=>
  obtain ⟨r,o',k'⟩:=p;rw [hx] at h;simp only [isR,Bool.and_eq_true] at h;obtain ⟨h1,h2,h3⟩:=h;rw [Nat.eq_of_beq_eq_true h1,SV.eqb_ok h2,tmB_ok h3];exact (xC_ok hX m).2.1 _ _ _ _ _ _ _ hx
def tbF:List (Nat×Func)→Nat→Option Func
 | [],_=>none
 | (k,fn) :: r,f=>bif Nat.beq k f then some fn else tbF r f
theorem tbF_ok {P : Program} : ∀ (l : List (Nat × Func)), (∀ p ∈ l, P.funcs[p.1]? = some p.2 ∧ (p.2.name == "runtime.NumGoroutine") = false) → ∀ f fn, tbF l f = some fn → P.funcs[f]? = some fn ∧ (fn.name == "runtime.NumGoroutine") = false
 | [],_,f,fn,h=>by simp [tbF] at h
 | (k,g) :: r,hl,f,fn,h=>by
  simp only [tbF,TM.beq_cond] at h;split at h
  ·rename_i hk;subst hk;simp only [Option.some.injEq] at h;subst h;exact hl (k,g) (by simp)
  ·exact tbF_ok r (fun p hp=>hl p (by simp [hp])) f fn h
end Go.Proofs.YtpkcbdhjnnnkbaaGreat.Abs





namespace Go.Proofs.YtpkcbdhjnnnkbaaGreat.Abs
open Go
open Go.ChangeShapes Go.WideShapes Go.ChangeAt Go.RowKit Go.WideElems
def Sof (w:World):Nat→Prop:=fun k=>k < w.heap.size
def RdC (w:World) (xs:List D) (cs:List Value):Prop:=cs.length=xs.length∧∀ (i:Nat) (x:D) (v:Value),xs[i]?=some x→cs[i]?=some v→Rd w (Sof w) x v
def D.cl:D→List D
 | .agg xs=>xs
 | x=>[x]
def D.ok1:D→Prop
 | .agg xs=>xs.all D.leaf=true
 | _=>True
theorem val_of {w:World} {x:D} {cs:List Value} (h:RdC w x.cl cs) (ho:x.ok1):∃ v:Value,v.cells.toList=cs∧Rd w (Sof w) x v:=by
 obtain ⟨h1,h2⟩:=h;by_cases hx:x.leaf=true
 ·have hc:x.cl=[x]:=by cases x <;> first | rfl | (simp [D.leaf] at hx)
  rw [hc] at h1 h2
  match cs,h1 with
  | [v],_=>
   have hr:=h2 0 x v rfl rfl;exact ⟨v,by rw [hr.leaf_cells hx],hr⟩
 ·cases x <;> simp [D.leaf] at hx
  rename_i xs;exact ⟨.agg cs.toArray,by simp [Value.cells],.agg xs cs ho h1 h2⟩
theorem rdC_one {w:World} {x:D} {v:Value} (h:Rd w (Sof w) x v):RdC w [x] [v]:=by
 refine ⟨rfl,fun i y u h1 h2=>?_⟩
 match i with
 | 0=>simp at h1 h2;subst h1;subst h2;exact h
 | i+1=>simp at h1
theorem list_of {α:Type} {Q:Nat→α→Prop}:∀ n,(∀ i,i < n→∃ a,Q i a)→∃ l:List α,l.length=n∧∀ i a,l[i]?=some a→Q i a
 | 0,_=>⟨[],rfl,by simp⟩
 | n+1,h=>by
  obtain ⟨l,h1,h2⟩:=list_of n fun i hi=>h i (by omega);obtain ⟨a,ha⟩:=h n (by omega);refine ⟨l++[a],by simp [h1],fun i b hb=>?_⟩;rcases Nat.lt_or_ge i l.length with hi | hi
  ·rw [List.getElem?_append_left hi] at hb;exact h2 i b hb
  ·rw [List.getElem?_append_right hi] at hb;have:i - l.length=0:=by
    rcases Nat.eq_zero_or_pos (i - l.length) with h' | h'
    ·exact h'
    ·rw [List.getElem?_eq_none (by simp;omega)] at hb;cases hb
   rw [this] at hb;simp at hb;subst hb;rw [show i=n by omega];exact ha
theorem mapM_some {α β:Type} {f:α→Option β}:∀ {l:List α} {r:List β},l.mapM f=some r→r.length=l.length∧∀ (i:Nat) (a:α),l[i]?=some a→f a=r[i]?
 | [],r,h=>by
  simp at h;subst h;exact ⟨rfl,by simp⟩
 | a :: l,r,h=>by
  rw [List.mapM_cons] at h;simp only [Option.bind_eq_bind,Option.bind_eq_some_iff,Option.pure_def,Option.some.injEq] at h;obtain ⟨b,hb,r',hr,rfl⟩:=h;obtain ⟨h1,h2⟩:=mapM_some hr;refine ⟨by simp [h1],fun i x hx=>?_⟩
  match i with
  | 0=>simp at hx;subst hx;simpa using hb
  | i+1=>simpa using h2 i x (by simpa using hx)
theorem cells_some {w:World} {b n:Nat} {a:Addr} {cs:List Value} (h:w.cells? b a n=some cs):cs.length=n∧∀ j,j < n→w.cell? (a.add j)=cs[j]?:=by
 unfold World.cells? at h;split at h
 ·obtain ⟨h1,h2⟩:=mapM_some h;rw [List.length_range] at h1;exact ⟨h1,fun j hj=>h2 j j (by rw [List.getElem?_range hj])⟩
 ·cases h
section
variable {H:Type} {enc:TypeId×Value→H} {P:Program} {w:World} {base fuel:Nat} {spare:Nat→Bool} {held:Bool} {t e:TypeId} {cs:List Value} {x:DataW H×List MemPlace}
def All2 {α:Type} (A:α→DataW H→Prop) (l:List α) (es:List (DataW H)):Prop:=l.length=es.length∧∀ (i:Nat) (a:α) (y:DataW H),l[i]?=some a→es[i]?=some y→A a y
def SlD {α:Type} (A:α→DataW H→Prop) (l:List α) (d:DataW H):Prop:=(d=.nil∧l=[])∨∃ es sp,d=.slice es sp∧All2 A l es
theorem rd_slice {α:Type} {z:Nat} (encA:α→D) (A:α→DataW H→Prop) (hu:P.underlying t=some (.slice e)) (hz:P.cellsOf e=z) (hz0:0 < z) (hzA:∀ a,(encA a).cl.length=z) (hok:∀ a,(encA a).ok1)
    (h:DataW.trod enc P w base spare held fuel t cs=some x)
    (he:∀ n cs x,n < fuel→DataW.trod enc P w base spare held n e cs=some x→∃ a,RdC w (encA a).cl cs∧A a x.1) :
    ∃ l:List α,RdC w [.sl z (l.map encA)] cs∧SlD A l x.1:=by
  rcases DataW.trod_slice hu h with ⟨rfl,rfl⟩ | ⟨a,len,cap,elems,rest,n,hf,rfl,rfl,hb,hlc,hcm,hlen,hel,_⟩
  · exact ⟨[],rdC_one (.emp _ _ _ (by omega)),.inl ⟨rfl,rfl⟩⟩
  · rw [hz] at hel;have key:∀ i,i < len→∃ p:α×Value,(∃ cs',w.cells? base (a.add (i * z)) z=some cs'∧p.2.cells.toList=cs')∧Rd w (Sof w) (encA p.1) p.2∧∀ y,elems[i]?=some y→A p.1 y.1:=by
      intro i hi;have h1:=hel i hi;rw [List.getElem?_eq_getElem (by omega)] at h1;obtain ⟨cs',h2,h3⟩:=Option.bind_eq_some_iff.1 h1;obtain ⟨b,h4,h5⟩:=he n cs' _ (by omega) h3;obtain ⟨v,h6,h7⟩:=val_of h4 (hok b);refine ⟨(b,v),⟨cs',h2,h6⟩,h7,fun y hy=>?_⟩;rw [List.getElem?_eq_getElem (by omega)] at hy;injection hy with hy;rw [← hy];exact h5
    obtain ⟨l,hl1,hl2⟩:=list_of len key;refine ⟨l.map (·.1),?_,.inr ⟨_,_,rfl,by simp [hl1,hlen],fun i b y hb' hy=>?_⟩⟩
    · refine rdC_one ?_;rcases Nat.eq_zero_or_pos len with h0 | h0
      · have:l=[]:=List.eq_nil_of_length_eq_zero (by omega);subst this;subst h0;exact .emp _ _ _ (by simpa [maxLen] using hcm)
      · have hS:Sof w a.block:=by
          obtain ⟨p,⟨cs',h1,_⟩,_⟩:=key 0 h0;obtain ⟨h2,h3⟩:=cells_some h1;have h4:=h3 0 hz0;rw [List.getElem?_eq_getElem (by omega)] at h4;have:=World.block_lt_of_cell? w _ h4
          rwa [add_block,add_block] at this
        have hlm:((l.map (·.1)).map encA).length=len:=by simp [hl1]
        rw [← hlm];refine .sl z _ a cap (l.map (·.2)) (by omega) (by simpa [maxLen] using hcm) hS (by simp [hl1]) (fun i y v hy hv=>?_) (fun i v hv=>?_) (fun i j v u hv hu'=>?_)
        · rw [List.getElem?_map,List.getElem?_map] at hy;rw [List.getElem?_map] at hv;cases hp:l[i]? with
          | none=>rw [hp] at hv;cases hv
          | some p=>
            rw [hp] at hy hv;simp at hy hv;subst hy;subst hv;exact (hl2 i p hp).2.1
        · rw [List.getElem?_map] at hv;obtain ⟨p,hp,rfl⟩:=Option.map_eq_some_iff.1 hv;obtain ⟨⟨cs',h1,h2⟩,_,_⟩:=hl2 i p hp;have:=(cells_some h1).1;rw [← h2] at this;simpa using this
        · rw [List.getElem?_map] at hv;obtain ⟨p,hp,rfl⟩:=Option.map_eq_some_iff.1 hv;obtain ⟨⟨cs',h1,h2⟩,_,_⟩:=hl2 i p hp;obtain ⟨h3,h4⟩:=cells_some h1;have hj:j < p.2.cells.size:=(Array.getElem?_eq_some_iff.1 hu').1;have hjz:j < z:=by
            rw [← h2] at h3;simp at h3;omega
          have h5:=h4 j hjz;rw [Addr_add_add] at h5;rw [h5,← h2];simpa using hu'
    · rw [List.getElem?_map] at hb' hy;obtain ⟨p,hp,rfl⟩:=Option.map_eq_some_iff.1 hb';obtain ⟨q,hq,rfl⟩:=Option.map_eq_some_iff.1 hy;exact (hl2 i p hp).2.2 q hq
theorem rd_int {k:IntKind} (hu:P.underlying t=some (.int k)) (h:DataW.trod enc P w base spare held fuel t cs=some x):∃ n,RdC w [.int k n] cs∧x.1=.lit (.int k n)∧(Lit.int k n).wf=true:=by
 obtain ⟨n,rfl,rfl,hw⟩:=DataW.trod_int hu h;exact ⟨n,rdC_one (.int _ _),rfl,hw⟩
theorem wf_u8 {n:Int} (h:(Lit.int .u8 n).wf=true):0≤n∧n≤255:=bounds_u8 h
end
theorem rdv_one {P:Program} {w W:World} {r:Reach} {base:Nat} {t:TypeId} {i:TI} {x:D} {v:Value} (h:Value.okWide P W r base t v) (hT:TOk P t i) (hk:i.k.agg=false) (hc:RdC w [x] v.cells.toList):Rd w (Sof w) x v:=by
 have hne:∀ cs,v≠.agg cs:=by
  rintro cs rfl;have hk2:=hT.k;unfold tkOf at hk2;unfold Value.okWide Cell.okWide Cell.ok at h;cases hu:P.underlying t with
  | none=>rw [hu] at h;simp at h
  | some d=>
   rw [hu] at h hk2;cases d <;> simp at h hk2
   all_goals first
    | (rw [← hk2] at hk;cases hk)
    | (rw [← hk2.2] at hk;cases hk)
 have hv:v.cells=#[v]:=by
  cases v <;> first | rfl | exact absurd rfl (hne _)
 rw [hv] at hc;exact hc.2 0 x v rfl rfl
section
variable {H:Type} {enc:TypeId×Value→H} {P:Program}
theorem post_of_below {f:Func} {s:ChangeSpec} {apart fresh handsOn again:Bool} {W W':World} {args:Array Value} {v:Value} {ds gs:List (DataW H)} {before pa pv:List MemPlace}
    (hW:DataW.Whole enc P f.params.toList s.vars apart W args.toList ds gs before)
    (hres:∀ (b:Nat) (sp:Nat→Bool) (hd:Bool),DataW.TrodAll enc P W' b sp hd f.resultTypes.toList (v.resultList f.resultTypes.size) (s.fn H (ds++gs)).results [])
    (hargs:∀ sp:Nat→Bool,(∀ p∈before,sp p.block=true)→DataW.TrodAll enc P W' 0 sp true f.params.toList args.toList (s.fn H (ds++gs)).args pa)
    (hvars:∀ sp:Nat→Bool,(∀ p∈before,sp p.block=true)→DataW.TrodVars enc P W' sp s.vars (s.fn H (ds++gs)).vars pv)
    (hps:before=pa++pv) (hb:Below W.heap.size W W')
    (hok:∀ (j:Nat) (t:TypeId) (r:Value),f.resultTypes[j]?=some t→(v.resultList f.resultTypes.size)[j]?=some r→Value.okWide P W' .any 0 t r) :
    s.post enc P f apart fresh handsOn again W args v W':=by
  have hlt:∀ p∈before,p.block < W.heap.size:=fun p hp=>hW.lt p hp;have hold:∀ p∈before,(fun b=>decide (b < W.heap.size)) p.block=true:=fun p hp=>by simpa using hlt p hp
  refine ⟨ds,gs,before,[],pa,pv,hW,hres _ _ _,hargs _ hold,hvars _ hold,World.keptBut_mono (fun p hp=>⟨hp,?_⟩) (hb.frame (·∈before)),fun _=>?_⟩
  · rw [hps,List.mem_append] at hp;exact Or.inr hp
  · obtain ⟨_,_,_,_,_,hz,hn⟩:=hW;refine ⟨hok,_,_,([]++pa)++pv,⟨[]++pa,pv,trodAll_append (hargs _ (fun _ _=>rfl)) (hres _ _ _),hvars _ (fun _ _=>rfl),rfl,?_,?_⟩,?_⟩
    · intro b off hp;have hin:MemPlace.cell b off∈before:=by rw [hps];simpa using hp
      rw [hb.frozen (hlt _ hin)];exact hz b off hin
    · intro ha;have:=hn ha;rw [hps] at this;simpa using this
    · intro p hp _;rw [hps];simpa using hp
theorem trodAll_stays (hl:laidOutB P=true) {W W':World} (hb:Below W.heap.size W W'):∀ {ts:List TypeId} {vs:List Value} {ds:List (DataW H)} {ps:List MemPlace} {sp:Nat→Bool},(ts.all fun t=>P.readableRec t && decide (t < P.types.size))=true→
    DataW.TrodAll enc P W 0 (fun _=>true) true ts vs ds ps→(∀ p∈ps,sp p.block=true)→(∀ p∈ps,p.block < W.heap.size)→DataW.TrodAll enc P W' 0 sp true ts vs ds ps
  | [],vs,ds,ps,sp,_,h,_,_=>by
    obtain ⟨rfl,rfl,rfl⟩:=trodAll_nil h;rfl
  | t :: ts,vs,ds,ps,sp,ht,h,hs,hlt=>by
    obtain ⟨v,vs',d,ds',p,q,rfl,rfl,rfl,h1,h2⟩:=trodAll_cons h;simp only [List.all_cons,Bool.and_eq_true,decide_eq_true_eq] at ht;exact trodAll_cons_mk (Trod_stays hl ht.1.1 ht.1.2 h1 (fun x hx=>hb.same (hlt x (by simp [hx]))) fun x hx=>hs x (by simp [hx])) (trodAll_stays hl hb ht.2 h2 (fun x hx=>hs x (by simp [hx])) fun x hx=>hlt x (by simp [hx]))
theorem calls_of_spec {f : FuncId} {fn : Func} {W : World} {vs : List Value} {ds : List D} (hfn : P.funcs[f]? = some fn) (hbody : fn.body.isSome = true) (hname : (fn.name == "runtime.NumGoroutine") = false) (h : PSpec P f (ds.map .d) (.d (.bool true))) (hr : vs.length = ds.length ∧ ∀ (i : Nat) (x : D) (v : Value), ds[i]? = some x → vs[i]? = some v → Rd W (Sof W) x v) :
    Calls P f vs.toArray W fun e W'=>e=.returned (.bool true)∧Below W.heap.size W W':=by
  have hsto:Sto W (Sof W) (fun _=>undef) (fun _=>none) 0:=⟨fun k hk=>hk,by simp,by simp,by simp,by simp,by simp,by simp⟩;have hd:=h (fun _=>none) 0 W (Sof W) (fun _=>undef) vs hsto (by simp [hr.1]) (fun i c v hc hv=>by
    rw [List.getElem?_map] at hc;obtain ⟨x,hx,rfl⟩:=Option.map_eq_some_iff.1 hc;exact .d _ _ (hr.2 i x v hx hv)) (lts_of fun i c hc=>by
      rw [List.getElem?_map] at hc;obtain ⟨x,hx,rfl⟩:=Option.map_eq_some_iff.1 hc;trivial)
  obtain ⟨b,hb⟩:=Option.isSome_iff_exists.1 hbody;have hcf:(callFunc f vs.toArray).run P W=.ok (.enter f vs.toArray) W:=by
    simp only [beq_eq_false_iff_ne,ne_eq] at hname;simp [callFunc,hfn,hb,hname]
  unfold Does at hd;rw [hcf] at hd;refine hd.mono ?_;rintro e W' ⟨v,rfl,r,o',nk',S',γ',⟨rfl,rfl,rfl⟩,hs,ht,hsr,hl⟩;refine ⟨?_,ht.os,ht.tape,ht.output,ht.size,fun k hk=>ht.kept k hk ?_⟩
  · cases hsr with
    | d _ _ hrd=>cases hrd;rfl
  · rintro ⟨t,y,hy,_⟩;cases hy
end
end Go.Proofs.YtpkcbdhjnnnkbaaGreat.Abs

namespace Go.Proofs.YtpkcbdhjnnnkbaaGreat.Abs
open Go
section
variable {H:Type} {enc:TypeId×Value→H} {w:World} {base fuel:Nat} {spare:Nat→Bool} {held:Bool} {cs:List Value} {x:DataW H×List MemPlace}
theorem cells_of {P:Program} {t:TypeId} {i:TI} (h:TOk P t i):P.cellsOf t=i.sz:=by
 have:=h.s;unfold Program.cellsOf;cases hq:P.info? t with
 | none=>rw [hq] at this;cases this
 | some q=>rw [hq] at this;simp at this;simp [this.1]
def szDs:List Dlt→Nat
 | []=>0
 | d :: r=>szV d.value+szN d.path+szDs r
def I64 (n:Int):Prop:=-9223372036854775808≤n∧n≤9223372036854775807
structure AEtr (e:Etr) (d:DataW H):Prop where
 rt:I64 e.term
 rk:I64 e.kind
 rs:I64 e.session
 rn:I64 e.number
 ri:rngV e.id
 rd:rngV e.doc
 rl:∀ x∈e.deltas,rngV x.value
 sz:szV e.id+szV e.doc+szDs e.deltas+e.coll.length+e.to.length+1≤Rows.uptoBulk d
structure AFlt (f:Flt) (d:DataW H):Prop where
 rk:I64 f.kinds
 sz:f.coll.length+szN f.path≤Rows.uptoBulk d
end
theorem open_bytes {H:Type} {enc:TypeId×Value→H} {w:World} {base fuel:Nat} {spare:Nat→Bool} {held:Bool} {cs:List Value} {x:DataW H×List MemPlace} (h:DataW.trod enc Tryz.prog w base spare held fuel 52 cs=some x):∃ b:List UInt8,RdC w [.sl 1 (b.map encB)] cs∧SlD (fun _ _=>True) b x.1:=
 rd_slice (z:=1) encB (fun _ _=>True) ((tabOk 52 _ th52).slice rfl) (cells_of (tabOk 5 _ th5)) (by decide) (fun _=>rfl) (fun _=>trivial) h fun n cs x _ h=>by
  obtain ⟨k,k1,k2,k3⟩:=rd_int ((tabOk 5 _ th5).int rfl) h;have hk:=wf_u8 k3;refine ⟨UInt8.ofNat k.toNat,?_,trivial⟩;have he:encB (UInt8.ofNat k.toNat)=.int .u8 k:=by
   have:(UInt8.ofNat k.toNat).toNat=k.toNat:=by simp [UInt8.toNat_ofNat'];omega
   simp only [encB,this];congr 1;omega
  rw [he];exact k1
end Go.Proofs.YtpkcbdhjnnnkbaaGreat.Abs



namespace Go.Proofs.YtpkcbdhjnnnkbaaGreat.Abs
open Go
def WSpec (P:Program) (f:FuncId) (args:SV→List SV) (e z:Nat) (xs xs':List D):Prop:=
 ∀ (o:Nat→Option AO) (nk:Nat) (x:SV) (q:Option Nat),dstOf o e z x=some (q,xs)→Spec P f (args x) o nk fun r o' nk'=>r=.row nk∧o'=upd (killo o q) nk (some (.row e z xs'))∧nk'=nk+1
theorem wk_newK {o:Nat→Option AO} {nk:Nat} {x:AO} (hx:∀ m,x.lt m) {o':Nat→Option AO} {q:Nat} (h1:nk≤q) (h3:o' q=some x) (h4:∀ t y,o t=some y→o' t=some y)
    (hlt:∀ t y,o t=some y→t < nk∧y.lt nk) (hr:∀ τ,x.ren τ=x) (hid:∀ t y,o t=some y→∀ τ:Nat→Nat,(∀ u,u < nk→τ u=u)→y.ren τ=y):Wko nk (fun t=>if t=nk then q else t) o' (upd o nk (some x)) (nk+1):=by
  refine ⟨by omega,fun t y hy=>?_,fun t t' y y' hy hy' e=>?_,fun t y ht _=>if_neg (by omega)⟩
  · unfold upd at hy;split at hy
    · rename_i he;subst he;injection hy with hy;subst hy;exact ⟨by omega,by simp only [if_true,h3,hr],hx _⟩
    · rename_i hne;obtain ⟨h5,h6⟩:=hlt t y hy;refine ⟨by omega,?_,?_⟩
      · rw [if_neg hne,h4 t y hy,hid t y hy _ fun u hu=>if_neg (by omega)]
      · cases y with
        | box cs=>exact SV.lts_mono (by omega) h6
        | row=>trivial
        | raw=>trivial
  · have key:∀ t y,upd o nk (some x) t=some y→t=nk∨t < nk:=fun t y hy=>by
      unfold upd at hy;split at hy
      · rename_i he;exact .inl he
      · exact .inr (hlt t y hy).1
    have k1:=key t y hy;have k2:=key t' y' hy';by_cases ht:t=nk
    · by_cases ht':t'=nk
      · rw [ht,ht']
      · rw [if_pos ht,if_neg ht'] at e;omega
    · by_cases ht':t'=nk
      · rw [if_neg ht,if_pos ht'] at e;omega
      · rw [if_neg ht,if_neg ht'] at e;exact e
theorem Spec.newRowK {P:Program} {f:FuncId} {args:List SV} {o:Nat→Option AO} {nk:Nat} {q:Option Nat} {e z:Nat} {xs:List D}
    (h:Spec P f args o nk fun r o' nk'=>∃ p,r=.row p∧nk≤p∧p < nk'∧o' p=some (.row e z xs)∧∀ t,t < nk∧q≠some t→o' t=o t) :
    Spec P f args o nk fun r o' nk'=>r=.row nk∧o'=upd (killo o q) nk (some (.row e z xs))∧nk'=nk+1:=by
  intro w S γ vs h1 h2 h3 h4;refine (h w S γ vs h1 h2 h3 h4).mono ?_;rintro v w' ⟨r,o',nk',S',γ',⟨p,rfl,k1,k2,k3,k4⟩,hs,ht,hr,hl⟩;have hlt:∀ t y,killo o q t=some y→t < nk∧y.lt nk:=fun t y hy=>by
    have hy:=(killo_some hy).1;refine ⟨h1.o_lt t y hy,?_⟩;cases y with
    | box cs=>exact (h1.box t cs hy).2
    | row=>trivial
    | raw=>trivial
  have hid:∀ t y,killo o q t=some y→∀ τ:Nat→Nat,(∀ u,u < nk→τ u=u)→y.ren τ=y:=fun t y hy τ hτ=>by
    have hy:=(killo_some hy).1;cases y with
    | box cs=>simp only [AO.ren];rw [SV.rens_lt hτ (h1.box t cs hy).2]
    | row=>rfl
    | raw=>rfl
  have hk:Wko nk (fun t=>if t=nk then p else t) o' (upd (killo o q) nk (some (.row e z xs))) (nk+1):=wk_newK (x:=.row e z xs) (fun _=>trivial) k1 k3 (fun t y hy=>by rw [k4 t ⟨(hlt t y hy).1,(killo_some hy).2⟩];exact (killo_some hy).1) hlt (fun _=>rfl) hid;refine ⟨.row nk,_,_,S',γ' ∘ _,⟨rfl,rfl,rfl⟩,hk.sto hs,hk.tr ht,hr.of_ren (fun t x hx=>(hk.o t x hx).2.1) (.row nk) ?_,Nat.lt_succ_self _⟩;simp [SV.ren]
theorem dst_lt {w:World} {S:Nat→Prop} {γ:Nat→Value} {o:Nat→Option AO} {nk e z:Nat} {x:SV} {q:Option Nat} {xs:List D} (h:Sto w S γ o nk) (hd:dstOf o e z x=some (q,xs)):∀ t,q=some t→t < nk:=fun t ht=>by
 rcases dst_two hd with ⟨_,rfl,_⟩ | ⟨t2,_,rfl,h2⟩
 ·cases ht
 ·cases ht;exact h.o_lt _ _ h2
theorem WSpec.of {P:Program} {f:FuncId} {n:Nat} {ts:List Nat} {c:Code} {args:SV→List SV} {e z:Nat} {xs xs':List D} (hf:FnOk P f n ts c) (hn:∀ x,(args x).length≤n)
    (h:∀ o nk x q,dstOf o e z x=some (q,xs)→(∀ t,q=some t→t < nk)→WP P n nk c ⟨slots (args x),o,nk⟩ (retQ ts fun r o' nk'=>∃ p,r=.row p∧nk≤p∧p < nk'∧o' p=some (.row e z xs')∧∀ t,t < nk∧q≠some t→o' t=o t)):WSpec P f args e z xs xs':=
  fun o nk x q hd=>Spec.newRowK fun w S γ vs h1 h2 h3 h4=>Spec.of_body hf (hn x) (h o nk x q hd (dst_lt h1 hd)) w S γ vs h1 h2 h3 h4
theorem wrow_ok {ts:List Nat} {sl:Nat→SV} {o o0:Nat→Option AO} {nk nk0 p e z:Nat} {q:Option Nat} {xs xs':List D} (h1:resOf ts ⟨sl,o,nk⟩=.row p) (h2:nk0≤p) (h3:p < nk) (h5:o p=some (.row e z xs)) (h4:∀ t,t < nk0∧q≠some t→o t=o0 t) (hx:xs=xs') :
 retQ ts (fun r o' nk'=>∃ p,r=.row p∧nk0≤p∧p < nk'∧o' p=some (.row e z xs')∧∀ t,t < nk0∧q≠some t→o' t=o0 t) .ret ⟨sl,o,nk⟩:=⟨p,h1,h2,h3,hx ▸ h5,h4⟩
theorem rrow_okx {ts:List Nat} {sl:Nat→SV} {o o0:Nat→Option AO} {nk nk0 q e z:Nat} {xs xs':List D} (h1:resOf ts ⟨sl,o,nk⟩=.row q) (h2:nk0≤q) (h3:q < nk) (h5:o q=some (.row e z xs)) (h4:∀ t,t < nk0→o t=o0 t) (hx:xs=xs') :
 retQ ts (fun r o' nk'=>∃ q,r=.row q∧nk0≤q∧q < nk'∧o' q=some (.row e z xs')∧∀ t,t < nk0→o' t=o0 t) .ret ⟨sl,o,nk⟩:=⟨q,h1,h2,h3,hx ▸ h5,h4⟩
section
variable {P:Program} {Θ:Tab} {K:SV→(Nat→Option AO)→Nat→Prop} {sl:Nat→SV} {o:Nat→Option AO} {nk:Nat}
variable {x y:Operand} {t e:Nat}
theorem w_apDr {i j:TI} {l xs ys:List D} {q:Option Nat} {q2:Nat} (hy:ev sl y=.row q2) (hi:Θ t=some i) (hk:i.k=.slice e) (hj:Θ e=some j) (hz:j.z=some l) (hl:l.length=j.sz) (hpos:0 < j.sz) (hd:dstOf o e j.sz (ev sl x)=some (q,xs)) (ho2:o q2=some (.row e j.sz ys))
    (h63:xs.length+ys.length≤9223372036854775807) (hby:(xs.length+ys.length) * j.bys≤140737488355328) (h:K (.row nk) (upd (killo o q) nk (some (.row e j.sz (xs++ys)))) (nk+1)):vOp P Θ (.call { callee:=.builtin .append,args:=#[x,y],argTypes:=#[t,t] }) ⟨sl,o,nk⟩ K:=
  o_ap (q:=q) hi hk hj hz hl hpos hd (by rw [hy];intro b h;cases h) (by rw [hy];simp [srcOf,ho2]) h63 hby h
theorem g_apDr {i j:TI} {l xs ys:List D} {q:Option Nat} {q2:Nat} (hy:ev sl y=.row q2) (hi:Θ t=some i) (hk:i.k=.slice e) (hj:Θ e=some j) (hz:j.z=some l) (hl:l.length=j.sz) (hpos:0 < j.sz) (hd:dstOf o e j.sz (ev sl x)=some (q,xs)) (ho2:o q2=some (.row e j.sz ys))
    (h63:xs.length+ys.length≤9223372036854775807) (hby:(xs.length+ys.length) * j.bys≤140737488355328) (h:∀ o1,o1 nk=some (.row e j.sz (xs++ys))→(∀ t,t≠nk→some t≠q→o1 t=o t)→K (.row nk) o1 (nk+1)):vOp P Θ (.call { callee:=.builtin .append,args:=#[x,y],argTypes:=#[t,t] }) ⟨sl,o,nk⟩ K:=
  w_apDr hy hi hk hj hz hl hpos hd ho2 h63 hby (h _ (upd_same _ _ _) fun u hu hq=>(upd_ne _ _ hu).trans (killo_ne fun e=>hq e.symm))
theorem g_ncall {g:FuncId} {asx:Array Operand} {ts:Array Nat} {us:List SV} {cs:List SV} (hs:∀ o nk,Spec P g us o nk fun r' o' nk'=>r'=.loc nk 0∧o'=upd o nk (some (.box cs))∧nk'=nk+1) (ha:asx.toList.map (ev sl)=us)
    (h:∀ o1,o1 nk=some (.box cs)→(∀ t,t≠nk→o1 t=o t)→K (.loc nk 0) o1 (nk+1)):vOp P Θ (.call { callee:=.value (.func g),args:=asx,argTypes:=ts }) ⟨sl,o,nk⟩ K:=
  o_call (hs o nk) ha (by rintro r' o' nk' ⟨rfl,rfl,rfl⟩;exact h _ (upd_same _ _ _) fun u hu=>upd_ne _ _ hu)
theorem g_dcall {g:FuncId} {asx:Array Operand} {ts:Array Nat} {us:List SV} {e z:Nat} {xs:List D} (hs:DSpec P g us e z xs) (ha:asx.toList.map (ev sl)=us)
    (h:∀ c q o1 nk1,dstOf o1 e z c=some (q,xs)→(∀ t,q=some t→nk≤t∧t < nk1)→nk≤nk1→(∀ t,t < nk→o1 t=o t)→K c o1 nk1):vOp P Θ (.call { callee:=.value (.func g),args:=asx,argTypes:=ts }) ⟨sl,o,nk⟩ K:=
  o_call (hs o nk) ha (by
    rintro r o1 nk1 (⟨rfl,rfl,h1,h2⟩ | ⟨q,rfl,h1,h2,h3,h4⟩)
    · exact h _ none o1 nk1 rfl (fun t ht=>by cases ht) h1 h2
    · exact h _ (some q) o1 nk1 (dst_row h3) (fun t ht=>by cases ht;exact ⟨h1,h2⟩) (by omega) h4)
theorem w_wcall {g:FuncId} {asx:Array Operand} {ts:Array Nat} {args:SV→List SV} {x:SV} {q:Option Nat} {e z:Nat} {xs xs':List D} (hs:WSpec P g args e z xs xs') (hd:dstOf o e z x=some (q,xs)) (ha:asx.toList.map (ev sl)=args x)
    (h:K (.row nk) (upd (killo o q) nk (some (.row e z xs'))) (nk+1)):vOp P Θ (.call { callee:=.value (.func g),args:=asx,argTypes:=ts }) ⟨sl,o,nk⟩ K:=
  o_call (hs o nk x q hd) ha (by rintro r o1 nk1 ⟨rfl,rfl,rfl⟩;exact h)
theorem g_wcall {g:FuncId} {asx:Array Operand} {ts:Array Nat} {args:SV→List SV} {x:SV} {q:Option Nat} {e z:Nat} {xs xs':List D} (hs:WSpec P g args e z xs xs') (hd:dstOf o e z x=some (q,xs)) (ha:asx.toList.map (ev sl)=args x)
    (h:∀ o1,o1 nk=some (.row e z xs')→(∀ t,t≠nk→some t≠q→o1 t=o t)→K (.row nk) o1 (nk+1)):vOp P Θ (.call { callee:=.value (.func g),args:=asx,argTypes:=ts }) ⟨sl,o,nk⟩ K:=
  w_wcall hs hd ha (h _ (upd_same _ _ _) fun t ht hq=>(upd_ne _ _ ht).trans (killo_ne fun e=>hq e.symm))
theorem g_wcallR {g:FuncId} {asx:Array Operand} {ts:Array Nat} {args:SV→List SV} {q:Nat} {e z:Nat} {xs xs':List D} (hs:WSpec P g args e z xs xs') (hd:o q=some (.row e z xs)) (ha:asx.toList.map (ev sl)=args (.row q))
    (h:∀ o1,o1 nk=some (.row e z xs')→(∀ t,t≠nk→t≠q→o1 t=o t)→K (.row nk) o1 (nk+1)):vOp P Θ (.call { callee:=.value (.func g),args:=asx,argTypes:=ts }) ⟨sl,o,nk⟩ K:=
  g_wcall hs (dst_row hd) ha fun o1 h1 h2=>h o1 h1 fun t ht hq=>h2 t ht fun e=>hq (by injection e)
theorem w_wcallR {g:FuncId} {asx:Array Operand} {ts:Array Nat} {args:SV→List SV} {q:Nat} {e z:Nat} {xs xs':List D} (hs:WSpec P g args e z xs xs') (hd:o q=some (.row e z xs)) (ha:asx.toList.map (ev sl)=args (.row q))
    (h:K (.row nk) (upd (upd o q none) nk (some (.row e z xs'))) (nk+1)):vOp P Θ (.call { callee:=.value (.func g),args:=asx,argTypes:=ts }) ⟨sl,o,nk⟩ K:=
  w_wcall hs (dst_row hd) ha h
theorem w_wcallN {g:FuncId} {asx:Array Operand} {ts:Array Nat} {args:SV→List SV} {e z:Nat} {xs':List D} (hs:WSpec P g args e z [] xs') (ha:asx.toList.map (ev sl)=args (.d .nil))
    (h:K (.row nk) (upd o nk (some (.row e z xs'))) (nk+1)):vOp P Θ (.call { callee:=.value (.func g),args:=asx,argTypes:=ts }) ⟨sl,o,nk⟩ K:=
  w_wcall (q:=none) hs rfl ha h
theorem g_rcallF {g:FuncId} {asx:Array Operand} {ts:Array Nat} {us us2:List SV} {q e1 z1:Nat} {e z:Nat} {xs xs':List D} (hd:o q=some (.row e1 z1 xs)) (hs:RSpec P g us2 e z xs') (ha:asx.toList.map (ev sl)=us) (hu:us.map (SV.frz q (.sl z1 xs))=us2)
    (h:∀ o1,o1 nk=some (.row e z xs')→(∀ t,t≠nk→t≠q→o1 t=o t)→K (.row nk) o1 (nk+1)):vOp P Θ (.call { callee:=.value (.func g),args:=asx,argTypes:=ts }) ⟨sl,o,nk⟩ K:=
  o_call (Spec.freeze hd (by rw [hu];exact hs.new _ nk)) ha (by rintro r' o' nk' ⟨rfl,rfl,rfl⟩;exact h _ (upd_same _ _ _) fun u hu hq=>by simp [upd,hu,hq])
end
section
variable {P:Program} {Θ:Tab} {ops:Array Oper} {K:St→Prop} {r:List Oper} {sl:Nat→SV} {d ty j lo m nk nk':Nat} {o o':Nat→Option AO} {op:Op} {pos:String} {af:Array Edge} {want c:Bool} {v:SV} {L:List Ob} {ks:List Kd}
theorem e_step4 {o2 o3:Nat→Option AO} {nk2 nk3:Nat} (h0:L[lo]?=some (o,nk)) (h1:L[lo+1]?=some (o',nk')) (h9:L[lo+2]?=some (o2,nk2)) (h10:L[lo+3]?=some (o3,nk3)) (h:vOp P Θ op ⟨sl,o,nk⟩ fun v' o'' nk''=>v'=v∧o''=o∧nk''=nk) (h2:vOp P Θ op ⟨sl,o',nk'⟩ fun v' o'' nk''=>v'=v∧o''=o'∧nk''=nk')
    (h3:vOp P Θ op ⟨sl,o2,nk2⟩ fun v' o'' nk''=>v'=v∧o''=o2∧nk''=nk2) (h4:vOp P Θ op ⟨sl,o3,nk3⟩ fun v' o'' nk''=>v'=v∧o''=o3∧nk''=nk3) (k:eOps P Θ ops K (pho L) m r ks (upd sl d v)) :
    eOps P Θ ops K (pho L) m ({ dst:=some d,op:=op,type:=ty,pos:=pos,after:=af,guard:=none } :: r) (.q lo (lo+3) :: ks) sl:=by
  refine ⟨v,?_,k⟩;show allP (lo+3 - lo) _ lo;rw [Nat.add_sub_cancel_left];simp only [allP,pho_at h0,pho_at h1,pho_at h9,pho_at h10];exact ⟨h,h2,h3,h4⟩
end
theorem bytesD_append (a b:Str):bytesD (a++b)=bytesD a++bytesD b:=by simp [bytesD]
theorem grp_l (n:Int):(grp (u64 n)).length≤10:=grp_len 10 _ (by have:=u64_lt n;omega) (by omega)
theorem fn84:FnOk Tryz.prog 84 8 [2] (bodyOf Tryz.f84):=⟨Tryz.f84,Tryz.func84,by kernel_rfl,by decide,by kernel_rfl,by kernel_rfl⟩
theorem s84 (ys:List D) (hsz:ys.length≤70368744177664):DSpec Tryz.prog 84 [.d (.sl 1 ys)] 5 1 (ys):=by
 refine DSpec.of fn84 (by simp) fun o nk=>?_;refine wr ?_;refine ua ?_;refine u_nil ?_;refine WP.seq fun K2 hK2=>?_;refine wr ?_;refine um ?_;refine u_step (o_eqnil rfl rfl th52 rfl fun nb4 hnb4=>?_);refine u_nil ?_;refine wc (fun hc5=>?_) (fun hc5=>?_) <;> try simp only [Q0,Q1,Q2,Q3,Q4,Q5,Q6,Q7,Q8,ge_iff_le,gt_iff_lt] at hc5
 ·
  refine wr (ua (u_nil (WP.ret ?_)));refine dnil_ok rfl ?_ (by omega) (fun _ _=>rfl);exact hnb4 hc5
 ·
  refine WP.skip (hK2 _ (wr ?_));refine u_step (g_bs0 th52 rfl th5 rfl rfl (by decide) fun o8 hb8 hk8=>?_);refine um ?_;refine u_step (g_ap rfl rfl th52 rfl th5 rfl rfl (by decide) rfl hb8 (by simp only [List.length_nil];omega) (by simp only [List.length_nil];omega) fun o9 hb9 hk9=>?_);refine uS (u_nil (WP.ret ?_));refine drow_ok rfl (by omega) (by omega) ?_ (fun t ht=>(hk9 t (by omega) (by omega)).trans ((hk8 t (by omega))));simpa using hb9
theorem fn86:FnOk Tryz.prog 86 9 [2] (bodyOf Tryz.f86):=⟨Tryz.f86,Tryz.func86,by kernel_rfl,by decide,by kernel_rfl,by kernel_rfl⟩
theorem s86 (t:Str) (hs:t.length≤70368744177664):RSpec Tryz.prog 86 [.d (.str t)] 5 1 (bytesD (grp (u64 t.length)++t)):=by
 refine RSpec.of fn86 (by simp) fun o nk=>?_;refine wr (ua (u_nil (wr (um ?_))));refine u_step (o_len_str rfl th9 rfl ?_);refine uc th3 th126 ?_;refine u_step (o_rcall (s138 (u64 t.length) (by first | exact u64_lt _ | omega)) rfl fun q3 o3 nk3 hqa3 hqb3 hb3 hk3=>?_);refine um ?_;refine u_step (g_aps rfl rfl th52 rfl th5 rfl th9 rfl hb3 (by have:=grp_l t.length;rw [bytesD_length];simp at *;omega) fun o4 hb4 hk4=>?_);refine uS (u_nil (WP.ret ?_));refine rrow_okx rfl (by omega) (by omega) hb4 (fun t ht=>(hk4 t (by omega) (by omega)).trans ((hk3 t (by omega)))) ?_;simp [bytesD_append]
theorem fn85:FnOk Tryz.prog 85 15 [4] (bodyOf Tryz.f85):=⟨Tryz.f85,Tryz.func85,by kernel_rfl,by decide,by kernel_rfl,by kernel_rfl⟩
theorem s85 (ys:List D) (n:Int) (h1:0≤n) (h2:n≤4611686018427387904) (hl:ys.length≤70368744177664):WSpec Tryz.prog 85 (fun x=>[x,.d (.int .i64 n)]) 5 1 (ys) (ys++bytesD (grp (u64 n))):=by
 refine WSpec.of fn85 (fun _=>by simp) fun o nk x q hdw hqw=>?_;refine wr (ua (u_nil (wr (um ?_))));refine u_step (o_rdcall (s137 n h1 h2) rfl fun q3 o3 nk3 hqa3 hqb3 hb3 hk3=>?_);have hdw_3:=dst_keep hdw fun t e=>hk3 t (by have:=hqw t e;omega);refine u_step (o_moveV (v:=.tup _) rfl ?_);refine ue (ue (uS (ua (u_nil (wr ?_)))));refine u_step (o_moveV (v:=x) rfl ?_);refine uR ?_;refine u_step (g_apDr rfl th52 rfl th5 rfl rfl (by decide) hdw_3 hb3 (by have:=grp_l n;rw [bytesD_length];simp;omega) (by have:=grp_l n;rw [bytesD_length];simp;omega) fun o5 hb5 hk5=>?_);have hb3_5:=(hk5 _ (by omega) (fun e=>by have:=hqw _ e.symm;omega)).trans hb3;refine uS (u_nil (WP.ret ?_));refine wrow_ok rfl (by omega) (by omega) hb5 (fun t ht=>(hk5 t (by omega) (fun e=>ht.2 e.symm)).trans ((hk3 t (by omega)))) ?_;rfl
theorem fn104:FnOk Tryz.prog 104 15 [4] (bodyOf Tryz.f104):=⟨Tryz.f104,Tryz.func104,by kernel_rfl,by decide,by kernel_rfl,by kernel_rfl⟩
theorem s104 (ys:List D) (n:Int) (h1:0≤n) (h2:n≤4611686018427387904) (hl:ys.length≤70368744177664):WSpec Tryz.prog 104 (fun x=>[x,.d (.int .i64 n)]) 5 1 (ys) (ys++bytesD (grp (u64 n))):=by
 refine WSpec.of fn104 (fun _=>by simp) fun o nk x q hdw hqw=>?_;refine wr (ua (u_nil (wr (um ?_))));refine u_step (o_rdcall (s137 n h1 h2) rfl fun q3 o3 nk3 hqa3 hqb3 hb3 hk3=>?_);have hdw_3:=dst_keep hdw fun t e=>hk3 t (by have:=hqw t e;omega);refine u_step (o_moveV (v:=.tup _) rfl ?_);refine ue (ue (uS (ua (u_nil (wr ?_)))));refine u_step (o_moveV (v:=x) rfl ?_);refine uR ?_;refine u_step (g_apDr rfl th52 rfl th5 rfl rfl (by decide) hdw_3 hb3 (by have:=grp_l n;rw [bytesD_length];simp;omega) (by have:=grp_l n;rw [bytesD_length];simp;omega) fun o5 hb5 hk5=>?_);have hb3_5:=(hk5 _ (by omega) (fun e=>by have:=hqw _ e.symm;omega)).trans hb3;refine uS (u_nil (WP.ret ?_));refine wrow_ok rfl (by omega) (by omega) hb5 (fun t ht=>(hk5 t (by omega) (fun e=>ht.2 e.symm)).trans ((hk3 t (by omega)))) ?_;rfl
def b8 (k:Int):UInt8:=UInt8.ofNat (k % 256).toNat
theorem b8_wrap (k:Int):IntKind.u8.wrap k=((b8 k).toNat:Int):=by
 have h:IntKind.u8.wrap k=k % 256:=by
  exact wrap_u8 k
 rw [h];simp only [b8,UInt8.toNat_ofNat',Nat.reducePow];omega
def txtC (t:Str):Str:=grp (u64 t.length)++t
mutual
def codV:Val→Str
 | .mk k i t xs ns=>b8 k :: (if k=1 then [] else if k=2 then [b8 i] else if k=3 then grp (zigN i) else if k=4∨k=5 then txtC t else grp (u64 xs.length)++codVs (decide (k=7)) xs ns)
def codVs (doc:Bool):List Val→List Str→Str
 | [],_=>[]
 | x :: xs,ns=>(if doc=true then txtC (ns.headD []) else [])++codV x++codVs doc xs ns.tail
end
theorem codVs_snoc (doc:Bool):∀ {xs:List Val} {ns:List Str} {i:Nat} (h:i < xs.length),codVs doc (xs.take (i+1)) ns=codVs doc (xs.take i) ns++(if doc=true then txtC (ns.getD i []) else [])++codV (xs[i]'h)
 | x :: xs,ns,0,_=>by simp [codVs];cases ns <;> rfl
 | x :: xs,ns,i+1,h=>by
  have:=codVs_snoc doc (xs:=xs) (ns:=ns.tail) (i:=i) (by simpa using h);simp only [List.take_succ_cons,codVs,this,List.getElem_cons_succ,List.append_assoc];congr 4;cases ns <;> simp
theorem bytesD_one (k:Int):[D.int .u8 (IntKind.u8.wrap k)]=bytesD [b8 k]:=by rw [b8_wrap];rfl
theorem txtC_len (t:Str):(txtC t).length=textN t:=by simp [txtC,textN]
def accC (k:Int) (xs:List Val) (ns:List Str) (i:Nat):Str:=b8 k :: (grp (u64 xs.length)++codVs (decide (k=7)) (xs.take i) ns)
theorem accC_a {k:Int} {xs:List Val} {ns:List Str} {i:Nat} (h:i < xs.length) (h7:¬ k=7):accC k xs ns (i+1)=accC k xs ns i++codV (xs[i]'h):=by
 simp [accC,codVs_snoc _ h,h7]
theorem accC_b {k:Int} {xs:List Val} {ns:List Str} {i:Nat} (h:i < xs.length) (hn:i < ns.length) (h7:k=7):accC k xs ns (i+1)=accC k xs ns i++txtC (ns[i]'hn)++codV (xs[i]'h):=by
 simp [accC,codVs_snoc _ h,h7,hn]
theorem accC_end {k i:Int} {t:Str} {xs:List Val} {ns:List Str} (h1:¬ k=1) (h2:¬ k=2) (h3:¬ k=3) (h4:¬ (k=4∨k=5)):accC k xs ns xs.length=codV (.mk k i t xs ns):=by
 simp only [accC,codV,if_neg h1,if_neg h2,if_neg h3,if_neg h4,List.take_length]
theorem codV_lenA (m:Nat):∀ v,SizeOf.sizeOf v < m→mayV v=true→(codV v).length=sizeV v:=by
 induction m with
 | zero=>intros;omega
 | succ m ih=>
  rintro ⟨k,i,t,xs,ns⟩ hv hm;by_cases h1:k=1
  ·subst h1;simp [codV,sizeV]
  by_cases h2:k=2
  ·subst h2;simp [codV,sizeV]
  by_cases h3:k=3
  ·subst h3;simp [codV,sizeV];omega
  by_cases h4:k=4∨k=5
  ·simp only [codV,sizeV,if_neg h1,if_neg h2,if_neg h3,if_pos h4,List.length_cons,txtC_len];omega
  have hl:∀ j,j≤xs.length→(accC k xs ns j).length=accS k xs ns j:=fun j=>by
   induction j with
   | zero=>intro _;simp only [accC,accS,List.take_zero,codVs,sizesV,List.append_nil,List.length_cons,namesN];rw [if_pos (by simp [mayV,kindOk,h1,h2,h3,h4] at hm;by_cases h6:k=6;exact .inl h6;by_cases h7:k=7;exact .inr h7;simp [h6,h7] at hm)];simp [cntN];omega
   | succ j ihj=>
    intro hj;have e:=ih _ (items_lt' (j:=j) (by omega) hv) (may_items hm (by omega));by_cases h7:k=7
    ·have hn:ns.length=xs.length:=by subst h7;exact may7 hm
     rw [accC_b (by omega) (by omega) h7,← accS_b (by omega) (by omega) h7,List.length_append,List.length_append,ihj (by omega),e,txtC_len];omega
    ·rw [accC_a (by omega) h7,← accS_a (by omega) h7,List.length_append,ihj (by omega),e]
  rw [← accC_end h1 h2 h3 h4,hl _ (Nat.le_refl _),accS_end hm h2 h3 h4]
theorem codV_len {v:Val} (h:mayV v=true):(codV v).length=sizeV v:=codV_lenA _ v (Nat.lt_succ_self _) h
theorem accC_len {k i:Int} {t:Str} {xs:List Val} {ns:List Str} (hm:mayV (.mk k i t xs ns)=true) (h6:k=6∨k=7):∀ j,j≤xs.length→(accC k xs ns j).length=accS k xs ns j:=fun j=>by
 induction j with
 | zero=>intro _;simp only [accC,accS,List.take_zero,codVs,sizesV,List.append_nil,List.length_cons,namesN];rw [if_pos h6];simp [cntN];omega
 | succ j ihj=>
  intro hj;have e:=codV_len (may_items hm (j:=j) (by omega));by_cases h7:k=7
  ·have hn:ns.length=xs.length:=by subst h7;exact may7 hm
   rw [accC_b (by omega) (by omega) h7,← accS_b (by omega) (by omega) h7,List.length_append,List.length_append,ihj (by omega),e,txtC_len];omega
  ·rw [accC_a (by omega) h7,← accS_a (by omega) h7,List.length_append,ihj (by omega),e]
theorem may67 {k i:Int} {t:Str} {xs:List Val} {ns:List Str} (hm:mayV (.mk k i t xs ns)=true) (h1:¬ k=1) (h2:¬ k=2) (h3:¬ k=3) (h4:¬ (k=4∨k=5)):k=6∨k=7:=by
 simp [mayV,kindOk,h1,h2,h3,h4] at hm;by_cases h6:k=6
 ·exact .inl h6
 by_cases h7:k=7
 ·exact .inr h7
 simp [h6,h7] at hm
theorem szVs_room:∀ {xs:List Val} {i:Nat} (h:i < xs.length),szVs (xs.take i)+szV (xs[i]'h)≤szVs xs
 | x :: xs,0,_=>by simp [szVs]
 | x :: xs,i+1,h=>by
  have:=szVs_room (xs:=xs) (i:=i) (by simpa using h);simp only [List.take_succ_cons,szVs,List.getElem_cons_succ];omega
theorem szN_room:∀ {xs:List Str} {i:Nat} (h:i < xs.length),szN (xs.take i)+(1+(xs[i]'h).length)≤szN xs
 | x :: xs,0,_=>by simp [szN];omega
 | x :: xs,i+1,h=>by
  have:=szN_room (xs:=xs) (i:=i) (by simpa using h);simp only [List.take_succ_cons,szN,List.getElem_cons_succ];omega
theorem roomA {k:Int} {xs:List Val} {ns:List Str} {i:Nat} (h:i < xs.length) (h7:¬ k=7):accS k xs ns i+12 * szV (xs[i]'h)≤12 * (1+szVs xs):=by
 have h1:=szVs_room h;have h2:=sizesV_le (xs.take i);have h3:=cntN_le xs.length;simp only [accS,if_neg h7];split <;> omega
theorem roomB {k:Int} {xs:List Val} {ns:List Str} {i:Nat} (h:i < xs.length) (hn:i < ns.length):accS k xs ns i+textN (ns[i]'hn)+12 * szV (xs[i]'h)≤12 * (1+szVs xs+szN ns):=by
 have h1:=szVs_room h;have h2:=sizesV_le (xs.take i);have h3:=cntN_le xs.length;have h4:=szN_room hn;have h5:=namesN_le (ns.take i);have h6:=textN_le (ns[i]'hn);simp only [accS];split <;> split <;> omega
theorem code0 {k:Int} {xs:List Val} {ns:List Str} {ys:List D} {n:Nat} (h:n=xs.length):ys++[D.int .u8 (IntKind.u8.wrap k)]++bytesD (grp (u64 (n:Int)))=ys++bytesD (accC k xs ns 0):=by
 subst h;rw [bytesD_one,List.append_assoc,← bytesD_append];simp [accC,codVs]
theorem codeA {k:Int} {xs:List Val} {ns:List Str} {ys:List D} {i:Nat} (h:i < xs.length) (h7:¬ k=7):ys++bytesD (accC k xs ns i)++bytesD (codV (xs[i]'h))=ys++bytesD (accC k xs ns (i+1)):=by
 rw [accC_a h h7,bytesD_append,List.append_assoc]
theorem codeB {k:Int} {xs:List Val} {ns:List Str} {ys:List D} {i:Nat} (h:i < xs.length) (hn:i < ns.length) (h7:k=7):ys++bytesD (accC k xs ns i)++bytesD (grp (u64 (ns[i]'hn).length)++ns[i]'hn)++bytesD (codV (xs[i]'h))=ys++bytesD (accC k xs ns (i+1)):=by
 rw [accC_b h hn h7,bytesD_append,bytesD_append];simp only [txtC,List.append_assoc,bytesD_append]
theorem cod1 {k i:Int} {t:Str} {xs:List Val} {ns:List Str} {ys:List D} (h:k=1):ys++[D.int .u8 (IntKind.u8.wrap k)]=ys++bytesD (codV (.mk k i t xs ns)):=by
 rw [bytesD_one];simp only [codV,if_pos h]
theorem cod2 {k i:Int} {t:Str} {xs:List Val} {ns:List Str} {ys:List D} (h1:¬ k=1) (h:k=2):ys++[D.int .u8 (IntKind.u8.wrap k)]++[D.int .u8 (IntKind.u8.wrap i)]=ys++bytesD (codV (.mk k i t xs ns)):=by
 rw [bytesD_one,bytesD_one,List.append_assoc,← bytesD_append];simp only [codV,if_neg h1,if_pos h];rfl
theorem cod3 {k i:Int} {t:Str} {xs:List Val} {ns:List Str} {ys:List D} (h1:¬ k=1) (h2:¬ k=2) (h:k=3):ys++[D.int .u8 (IntKind.u8.wrap k)]++bytesD (grp (zigN i))=ys++bytesD (codV (.mk k i t xs ns)):=by
 rw [bytesD_one,List.append_assoc,← bytesD_append];simp only [codV,if_neg h1,if_neg h2,if_pos h];rfl
theorem cod4 {k i:Int} {t:Str} {xs:List Val} {ns:List Str} {ys:List D} (h1:¬ k=1) (h2:¬ k=2) (h3:¬ k=3) (h:k=4∨k=5):ys++[D.int .u8 (IntKind.u8.wrap k)]++bytesD (grp (u64 t.length)++t)=ys++bytesD (codV (.mk k i t xs ns)):=by
 rw [bytesD_one,List.append_assoc,← bytesD_append];simp only [codV,if_neg h1,if_neg h2,if_neg h3,if_pos h];rfl
theorem wv {P:Program} {f:FuncId} {v:Val} {e z:Nat} {xs xs':List D} (h:WSpec P f (fun x=>[x,.d (encV v)]) e z xs xs'):WSpec P f (fun x=>[x,.d (.agg (valCells v))]) e z xs xs':=encV_eq v ▸ h
theorem may7k {k i:Int} {t:Str} {xs:List Val} {ns:List Str} (h:mayV (.mk k i t xs ns)=true) (hk:k=7):ns.length=xs.length:=by subst hk;exact may7 h
theorem fn139:FnOk Tryz.prog 139 77 [4] (bodyOf Tryz.f139):=⟨Tryz.f139,Tryz.func139,by kernel_rfl,by decide,by kernel_rfl,by kernel_rfl⟩
theorem s139A (m:Nat):∀ (v:Val) (ys:List D),SizeOf.sizeOf v < m→mayV v=true→rngV v→szV v≤1099511627776→ys.length+12 * szV v≤70368744177664→WSpec Tryz.prog 139 (fun x=>[x,.d (encV v)]) 5 1 (ys) (ys++bytesD (codV v)):=by
 induction m with
 | zero=>intros;omega
 | succ m ih=>
  rintro ⟨kd,it,tx,xs,ns⟩ ys hv hmy hrg hsz hyl;have hsz2:1+tx.length+szVs xs+szN ns≤1099511627776:=hsz;have hyl2:ys.length+12 * (1+tx.length+szVs xs+szN ns)≤70368744177664:=hyl;have hxl:=szVs_len xs;have hnl:=szN_len ns;have hln:=encVs_length xs;have hc1:=cntN_le xs.length;have hz1:=zig_le it;have ht1:=textN_le tx;refine WSpec.of fn139 (fun _=>by simp) fun o nk x q hdw hqw=>?_;refine wr ?_;refine u_step (g_box rfl fun o2 hb2 hk2=>?_);have hdw_2:=dst_keep hdw fun t e=>hk2 t (by have:=hqw t e;omega);refine ua (u_nil (wr ?_));refine u_step (o_moveV (v:=x) rfl ?_);refine uf th27 th3 hb2 ?_;refine ul th3 hb2 ?_;refine uc th3 th5 ?_;refine u_step (o_bs rfl th52 rfl th5 rfl rfl (by decide) rfl (by decide) (by decide) ?_);refine u_step (g_apD2 rfl th52 rfl th5 rfl rfl (by decide) rfl hdw_2 (by simp;omega) (by simp;omega) fun o4 hb4 hk4=>?_);have hb2_4:=(hk4 _ (by omega) (fun e=>by have:=hqw _ e.symm;omega)).trans hb2;refine uS (u_nil (WP.seq fun K5 hK5=>?_));refine wr (uf th27 th3 hb2_4 ?_);refine ul th3 hb2_4 ?_;refine u_nil (WP.block (wr (ub (ua (u_nil ?_)))));refine wc (fun hc8=>?_) (fun hc8=>?_)
  ·
   simp at hc8;refine wr (uR (uS (u_nil (WP.ret ?_))));refine wrow_ok rfl (by omega) (by omega) hb4 (fun t ht=>(hk4 t (by omega) (fun e=>ht.2 e.symm)).trans ((hk2 t (by omega)))) ?_;exact cod1 hc8
  ·
   simp at hc8;refine wr (ub (ua (u_nil ?_)));refine wc (fun hc11=>?_) (fun hc11=>?_)
   ·
    simp at hc11;refine wr (uR (uf th27 th3 hb2_4 ?_));refine ul th3 hb2_4 ?_;refine uc th3 th5 ?_;refine u_step (o_bs rfl th52 rfl th5 rfl rfl (by decide) rfl (by decide) (by decide) ?_);refine u_step (g_ap rfl rfl th52 rfl th5 rfl rfl (by decide) rfl hb4 (by simp;omega) (by simp;omega) fun o13 hb13 hk13=>?_);have hb2_13:=(hk13 _ (by omega) (by omega)).trans hb2_4;refine uS (u_nil (WP.ret ?_));refine wrow_ok rfl (by omega) (by omega) hb13 (fun t ht=>(hk13 t (by omega) (by omega)).trans ((hk4 t (by omega) (fun e=>ht.2 e.symm)).trans ((hk2 t (by omega))))) ?_;exact cod2 (by omega) hc11
   ·
    simp at hc11;refine wr (ub (ua (u_nil ?_)));refine wc (fun hc15=>?_) (fun hc15=>?_)
    ·
     simp at hc15;refine wr (uR (uf th27 th3 hb2_4 ?_));refine ul th3 hb2_4 ?_;refine u_step (o_rcall (s169 it hrg.1.1 hrg.1.2) rfl fun q17 o17 nk17 hqa17 hqb17 hb17 hk17=>?_);have hb2_17:=(hk17 _ (by omega)).trans hb2_4;have hb4_17:=(hk17 _ (by omega)).trans hb4;refine u_step (g_apr rfl rfl th52 rfl th5 rfl rfl (by decide) hb4_17 hb17 (by rw [bytesD_length];simp;omega) (by rw [bytesD_length];simp;omega) fun o18 hb18 hk18=>?_);have hb2_18:=(hk18 _ (by omega) (by omega)).trans hb2_17;have hb17_18:=(hk18 _ (by omega) (by omega)).trans hb17;refine uS (u_nil (WP.ret ?_));refine wrow_ok rfl (by omega) (by omega) hb18 (fun t ht=>(hk18 t (by omega) (by omega)).trans ((hk17 t (by omega)).trans ((hk4 t (by omega) (fun e=>ht.2 e.symm)).trans ((hk2 t (by omega)))))) ?_;exact cod3 (by omega) (by omega) hc15
    ·
     simp at hc15;refine WP.seqJ ⟨al [(0,.row (nk+1)),(3,.loc nk 0),(16,.d (.int .i64 kd)),(35,.d (.bool (decide (kd=4∨kd=5))))],o4,((nk+1)+1)⟩ ?_ ?_
     ·
      refine wr (ub (ua (u_nil ?_)));refine wc (fun hc20=>?_) (fun hc20=>?_)
      ·
       simp at hc20;refine WP.skip ?_;refine Le.al ?_;simp only [List.forall_mem_cons];have hl2:=hc20;refine ⟨rfl,rfl,rfl,?_,by simp⟩;refine congrArg (fun z=>SV.d (.bool z)) ?_;rw [Bool.eq_iff_iff,decide_eq_true_iff];simp at hl2 ⊢;omega
      ·
       simp at hc20;refine WP.reg tabOk rfl ?_;refine ub (ua (u_nil ?_));refine Le.al ?_;simp only [List.forall_mem_cons];have hl2:=hc20;refine ⟨rfl,rfl,rfl,?_,by simp⟩;refine congrArg (fun z=>SV.d (.bool z)) ?_;rw [Bool.eq_iff_iff,decide_eq_true_iff];simp at hl2 ⊢;omega
     ·
      refine wc (fun hc21=>?_) (fun hc21=>?_)
      ·
       simp at hc21;refine wr (uR (uf th27 th9 hb2_4 ?_));refine ul th9 hb2_4 ?_;refine u_step (o_rcall (s86 tx (by omega)) rfl fun q23 o23 nk23 hqa23 hqb23 hb23 hk23=>?_);have hb2_23:=(hk23 _ (by omega)).trans hb2_4;have hb4_23:=(hk23 _ (by omega)).trans hb4;refine u_step (g_apr rfl rfl th52 rfl th5 rfl rfl (by decide) hb4_23 hb23 (by rw [bytesD_length];simp only [List.length_append,List.length_cons,List.length_nil,textN] at *;omega) (by rw [bytesD_length];simp only [List.length_append,List.length_cons,List.length_nil,textN] at *;omega) fun o24 hb24 hk24=>?_);have hb2_24:=(hk24 _ (by omega) (by omega)).trans hb2_23;have hb23_24:=(hk24 _ (by omega) (by omega)).trans hb23;refine uS (u_nil (WP.ret ?_));refine wrow_ok rfl (by omega) (by omega) hb24 (fun t ht=>(hk24 t (by omega) (by omega)).trans ((hk23 t (by omega)).trans ((hk4 t (by omega) (fun e=>ht.2 e.symm)).trans ((hk2 t (by omega)))))) ?_;exact cod4 (by omega) (by omega) (by omega) hc21
      ·
       simp at hc21;refine WP.skip (hK5 _ (wr (uf th27 th25 hb2_4 ?_)));refine ul th25 hb2_4 ?_;refine un th25 ?_;refine u_step (o_rdcall (s137 (encVs xs).length (by omega) (by omega)) rfl fun q26 o26 nk26 hqa26 hqb26 hb26 hk26=>?_);have hb2_26:=(hk26 _ (by omega)).trans hb2_4;have hb4_26:=(hk26 _ (by omega)).trans hb4;refine u_step (o_moveV (v:=.tup _) rfl ?_);refine ue (ue (uS (ua (u_nil (wr (uR (uR ?_)))))));refine u_step (g_apr rfl rfl th52 rfl th5 rfl rfl (by decide) hb4_26 hb26 (by have:=grp_l (encVs xs).length;rw [bytesD_length];simp;omega) (by have:=grp_l (encVs xs).length;rw [bytesD_length];simp;omega) fun o28 hb28 hk28=>?_);have hb2_28:=(hk28 _ (by omega) (by omega)).trans hb2_26;have hb26_28:=(hk28 _ (by omega) (by omega)).trans hb26;refine uS (u_nil (WP.seq fun K29 hK29=>?_));refine wr (uf th27 th25 hb2_28 ?_);refine ul th25 hb2_28 ?_;refine un th25 ?_;refine um (u_nil (WP.block ?_));refine WP.loopL (ι:=Nat×Nat×(Nat→Option AO)×Nat) (fun ⟨i,p,o2,nk2⟩=>⟨al [(0,.row p),(3,.loc nk 0),(54,.d (.sl 5 (encVs xs))),(55,.d (.int .i64 (encVs xs).length)),(56,.d (.int .i64 i))],o2,nk2⟩) (fun ⟨i,p,o2,nk2⟩=>i≤xs.length∧nk < p∧p < nk2∧o2 nk=some (.box (([.int .i64 kd,.int .i64 it,.str tx,.sl 5 (encVs xs),.sl 1 (ns.map .str)]:List D).map .d))∧o2 p=some (.row 5 1 (ys++bytesD (accC kd xs ns i)))∧(∀ t,t < nk∧q≠some t→o2 t=o t)) (fun ⟨i,p,o2,nk2⟩=>xs.length - i) (fun ⟨i,p,o2,nk2⟩ hA=>?_) ⟨0,nk26,o28,(nk26+1)⟩ ?_ ?_
       ·
        obtain ⟨hle,hnp,hpn,hob,hrw,hfr⟩:=hA;have h67:=may67 hmy (by omega) (by omega) (by omega) (by omega);refine wr (ub (u_nil (WP.seq fun K32 hK32=>?_)));refine wc (fun hc33=>?_) (fun hc33=>?_)
        ·
         simp at hc33;refine WP.skip (hK32 _ (WP.seq fun K34 hK34=>?_));refine WP.block (wr (um ?_))
         first | refine u_step (o_ia_map rfl rfl th25 rfl th27 rfl (by omega) ?_) | refine u_step (o_ia_vs rfl rfl th25 rfl th27 rfl (by omega) ?_)
         refine uL th27 ?_;refine u_step (g_alloc th27 rfl fun o36 hb36 hk36=>?_);have hob_36:=(hk36 _ (by omega)).trans hob;have hrw_36:=(hk36 _ (by omega)).trans hrw;refine ua ?_;refine u_step0 (g_sta rfl (congrArg SV.d (encV_eq _)) th27 rfl hb36 (by simp [valCells]) fun o37 hb37 hk37=>?_);have hob_37:=(hk37 _ (by omega)).trans hob_36;have hrw_37:=(hk37 _ (by omega)).trans hrw_36;refine u_nil (WP.seq fun K38 hK38=>?_);refine wr (uf th27 th3 hob_37 ?_);refine ul th3 hob_37 ?_;refine ub (u_nil ?_);refine wc (fun hc40=>?_) (fun hc40=>?_)
         ·
          simp at hc40;refine WP.reg tabOk rfl ?_;refine uR (uf th27 th22 hob_37 ?_);refine ul th22 hob_37 ?_;refine um ?_;have hr9:=may7k hmy hc40
          refine u_step (o_ia_map rfl rfl th22 rfl th9 rfl (by omega) ?_)
          refine uL th9 ?_;refine u_step (o_rcall (s86 ns[i] (by have:=szN_get (xs:=ns) (j:=i) (by omega);omega)) rfl fun q41 o41 nk41 hqa41 hqb41 hb41 hk41=>?_);have hob_41:=(hk41 _ (by omega)).trans hob_37;have hrw_41:=(hk41 _ (by omega)).trans hrw_37;have hb37_41:=(hk41 _ (by omega)).trans hb37;refine u_step (g_apr rfl rfl th52 rfl th5 rfl rfl (by decide) hrw_41 hb41 (by have hr0:=hr9;have hr2:=accC_len hmy h67 i (by omega);have hr1:=roomB (k:=kd) (xs:=xs) (ns:=ns) (i:=i) (by omega) (by omega);rw [bytesD_length];simp only [List.length_append,bytesD_length,textN] at *;omega) (by have hr0:=hr9;have hr2:=accC_len hmy h67 i (by omega);have hr1:=roomB (k:=kd) (xs:=xs) (ns:=ns) (i:=i) (by omega) (by omega);rw [bytesD_length];simp only [List.length_append,bytesD_length,textN] at *;omega) fun o42 hb42 hk42=>?_);have hob_42:=(hk42 _ (by omega) (by omega)).trans hob_41;have hb37_42:=(hk42 _ (by omega) (by omega)).trans hb37_41;have hb41_42:=(hk42 _ (by omega) (by omega)).trans hb41;refine uS (u_nil (hK38 _ (WP.reg tabOk rfl ?_)));refine uR (ug th27 hb37_42 ?_);refine u_step (g_wcallR (wv (v:=xs[i]) (ih xs[i] _ (by exact items_lt' (by omega) hv) (by exact may_items hmy (by omega)) (by exact rngVs_get hrg.2 (by omega)) (by have:=szVs_get (xs:=xs) (j:=i) (by omega);omega) (by first | (have hr1:=roomA (xs:=xs) (ns:=ns) (i:=i) (by omega) hc40;have hr2:=accC_len hmy h67 i (by omega);simp only [List.length_append,bytesD_length];omega) | (have hr0:=may7k hmy hc40;have hr1:=roomB (k:=kd) (xs:=xs) (ns:=ns) (i:=i) (by omega) (by omega);have hr2:=accC_len hmy h67 i (by omega);simp only [List.length_append,bytesD_length,textN] at *;omega)))) hb42 rfl fun o43 hb43 hk43=>?_);have hob_43:=(hk43 _ (by omega) (by omega)).trans hob_42;have hb37_43:=(hk43 _ (by omega) (by omega)).trans hb37_42;have hb41_43:=(hk43 _ (by omega) (by omega)).trans hb41_42;refine uS (u_nil (hK34 _ (WP.reg tabOk rfl ?_)));refine ub (um (u_nil ?_));refine ⟨⟨i+1,(nk41+1),o43,((nk41+1)+1)⟩,⟨by omega,by omega,by omega,hob_43,by first | exact (hb43).trans (congrArg (fun z=>some (AO.row 5 1 z)) (codeA (by omega) hc40)) | exact (hb43).trans (congrArg (fun z=>some (AO.row 5 1 z)) (codeB (by omega) (by have:=may7k hmy hc40;omega) hc40)),(fun t ht=>(hk43 t (by omega) (by omega)).trans ((hk42 t (by omega) (by omega)).trans ((hk41 t (by omega)).trans ((hk37 t (by omega)).trans ((hk36 t (by omega)).trans ((hfr t ht)))))))⟩,by simp only;omega,?_⟩;refine Le.al ?_;simp only [List.forall_mem_cons];exact ⟨rfl,rfl,rfl,rfl,cnt (by omega),by simp⟩
         ·
          simp at hc40;refine WP.skip (hK38 _ (WP.reg tabOk rfl ?_));refine uR (ug th27 hb37 ?_);refine u_step (g_wcallR (wv (v:=xs[i]) (ih xs[i] _ (by exact items_lt' (by omega) hv) (by exact may_items hmy (by omega)) (by exact rngVs_get hrg.2 (by omega)) (by have:=szVs_get (xs:=xs) (j:=i) (by omega);omega) (by first | (have hr1:=roomA (xs:=xs) (ns:=ns) (i:=i) (by omega) hc40;have hr2:=accC_len hmy h67 i (by omega);simp only [List.length_append,bytesD_length];omega) | (have hr0:=may7k hmy hc40;have hr1:=roomB (k:=kd) (xs:=xs) (ns:=ns) (i:=i) (by omega) (by omega);have hr2:=accC_len hmy h67 i (by omega);simp only [List.length_append,bytesD_length,textN] at *;omega)))) hrw_37 rfl fun o44 hb44 hk44=>?_);have hob_44:=(hk44 _ (by omega) (by omega)).trans hob_37;have hb37_44:=(hk44 _ (by omega) (by omega)).trans hb37;refine uS (u_nil (hK34 _ (WP.reg tabOk rfl ?_)));refine ub (um (u_nil ?_));refine ⟨⟨i+1,(nk2+1),o44,((nk2+1)+1)⟩,⟨by omega,by omega,by omega,hob_44,by first | exact (hb44).trans (congrArg (fun z=>some (AO.row 5 1 z)) (codeA (by omega) hc40)) | exact (hb44).trans (congrArg (fun z=>some (AO.row 5 1 z)) (codeB (by omega) (by have:=may7k hmy hc40;omega) hc40)),(fun t ht=>(hk44 t (by omega) (by omega)).trans ((hk37 t (by omega)).trans ((hk36 t (by omega)).trans ((hfr t ht)))))⟩,by simp only;omega,?_⟩;refine Le.al ?_;simp only [List.forall_mem_cons];exact ⟨rfl,rfl,rfl,rfl,cnt (by omega),by simp⟩
        ·
         simp at hc33;refine WP.exit ?_;refine hK29 _ (wr (uR (uS (u_nil (WP.ret ?_)))));refine wrow_ok rfl (by omega) (by omega) hrw (fun t ht=>(hfr t ht)) ?_;have hie:i=xs.length:=by omega
         rw [hie,accC_end (by omega) (by omega) (by omega) (by omega)]
       ·
        have hl0:(encVs xs).length=xs.length:=encVs_length xs;refine ⟨by omega,by omega,by omega,hb2_28,code0 hl0 ▸ hb28,(fun t ht=>(hk28 t (by omega) (by omega)).trans ((hk26 t (by omega)).trans ((hk4 t (by omega) (fun e=>ht.2 e.symm)).trans ((hk2 t (by omega))))))⟩
       ·
        refine Le.al ?_;simp only [List.forall_mem_cons];exact ⟨rfl,rfl,rfl,rfl,rfl,by simp⟩
theorem s139 (v:Val) (ys:List D) (hmy:mayV v=true) (hrg:rngV v) (hsz:szV v≤1099511627776) (hyl:ys.length+12 * szV v≤70368744177664):WSpec Tryz.prog 139 (fun x=>[x,.d (encV v)]) 5 1 (ys) (ys++bytesD (codV v)):=s139A _ v ys (Nat.lt_succ_self _) hmy hrg hsz hyl
theorem fn87:FnOk Tryz.prog 87 14 [4] (bodyOf Tryz.f87):=⟨Tryz.f87,Tryz.func87,by kernel_rfl,by decide,by kernel_rfl,by kernel_rfl⟩
theorem s87 (v:Val) (ys:List D) (hc:checkV v=0) (hrg:rngV v) (hsz:szV v≤1099511627776) (hyl:ys.length+12 * szV v≤70368744177664):RSpec Tryz.prog 87 [.d (.sl 1 ys),.d (encV v)] 5 1 (ys++bytesD (codV v)):=by
 obtain ⟨kd,it,tx,xs,ns⟩:=v;refine RSpec.of fn87 (by simp) fun o nk=>?_;refine wr ?_;refine u_step (g_box rfl fun o2 hb2 hk2=>?_);refine ua (u_nil (wr (um ?_)));refine u_step (g_dcall (s84 ys (by omega)) rfl fun c4 q4 o4 nk4 hd4 hq4 hn4 hk4=>?_);have hb2_4:=(hk4 _ (by omega)).trans hb2;refine u_step (o_assignV (v:=c4) rfl ?_);refine u_nil (WP.seq fun K5 hK5=>?_);refine wr (ug th27 hb2_4 ?_);refine u_step (o_pcall (s123 (.mk kd it tx xs ns) hrg hsz) rfl ?_);refine ub (u_nil ?_);refine wc (fun hc7=>?_) (fun hc7=>?_)
 ·
  simp at hc7;exact absurd hc hc7
 ·
  simp at hc7;refine WP.skip (hK5 _ (wr ?_));refine u_step (o_moveV (v:=c4) rfl ?_);refine ug th27 hb2_4 ?_;refine u_step (g_wcall (s139 (.mk kd it tx xs ns) ys (check_may hc) hrg hsz hyl) hd4 rfl fun o9 hb9 hk9=>?_);have hb2_9:=(hk9 _ (by omega) (fun e=>by have:=hq4 _ e.symm;omega)).trans hb2_4;refine uS (u_nil (WP.ret ?_));refine rrow_okx rfl (by omega) (by omega) hb9 (fun t ht=>(hk9 t (by omega) (fun e=>by have:=hq4 _ e.symm;omega)).trans ((hk4 t (by omega)).trans ((hk2 t (by omega))))) ?_;rfl
end Go.Proofs.YtpkcbdhjnnnkbaaGreat.Abs
