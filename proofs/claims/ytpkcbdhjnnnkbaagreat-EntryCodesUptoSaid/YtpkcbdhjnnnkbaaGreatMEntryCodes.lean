/- EntryCodes: called with any entry that holds at most 1048576 values and letters, the law answers true, and it reads afterwards as it read before. -/
import Derived.Test.YtpkcbdhjnnnkbaaGreatMEntryCodes5
import Derived.Test.YtpkcbdhjnnnkbaaGreatMEntryCodes3
set_option linter.unusedSimpArgs false
set_option linter.unusedVariables false
set_option maxHeartbeats 1000000
set_option maxRecDepth 100000
namespace Go.Proofs.YtpkcbdhjnnnkbaaGreat.Abs
open Go
theorem hsB_eq (k:Int):hsB k 1=hasC k∧hsB k 2=hasT k∧hsB k 4=hasI k∧hsB k 8=hasD k∧hsB k 16=hasS k:=by
 unfold hsB fieldsV hasC hasT hasI hasD hasS;by_cases h1:k=1
 ·subst h1;decide
 by_cases h2:k=2
 ·subst h2;decide
 by_cases h3:k=3
 ·subst h3;decide
 by_cases h4:k=4
 ·subst h4;decide
 by_cases h5:k=5
 ·subst h5;decide
 by_cases h6:k=6
 ·subst h6;decide
 by_cases h7:k=7
 ·subst h7;decide
 have h8:¬ (2≤k∧k≤7):=by omega
 simp only [h1,h2,h3,h4,h5,h6,h7,if_false,or_self,decide_false,Bool.or_false];refine ⟨?_,by decide,by decide,by decide,by decide⟩;have e:(decide (2≤k) && decide (k≤7))=false:=by
  cases hx:(decide (2≤k) && decide (k≤7)) with
  | false=>rfl
  | true=>exact absurd (by simpa using hx) h8
 rw [e];decide
structure EOk (e:Etr):Prop where
 k:1≤e.kind∧e.kind≤7
 t:0≤e.term∧e.term≤1099511627776
 s:0≤e.session∧e.session≤255
 n:0≤e.number∧e.number≤1099511627776
 c:(hsB e.kind 1=true→e.coll.length≤32)∧(¬ hsB e.kind 1=true→e.coll=[])
 o:(hsB e.kind 2=true→e.to.length≤32)∧(¬ hsB e.kind 2=true→e.to=[])
 i:(hsB e.kind 4=true→checkV e.id=0)∧(¬ hsB e.kind 4=true→noneV e.id=true)
 d:(hsB e.kind 8=true→checkV e.doc=0)∧(¬ hsB e.kind 8=true→noneV e.doc=true)
 l:(hsB e.kind 16=true→checkD e.deltas=0)∧(¬ hsB e.kind 16=true→e.deltas=[])
theorem mayE_ok {e:Etr} (h:mayE e=true):EOk e:=by
 obtain ⟨b1,b2,b3,b4,b5⟩:=hsB_eq e.kind;simp only [mayE,Bool.and_eq_true,decide_eq_true_eq] at h;obtain ⟨⟨⟨⟨⟨⟨hk,ht⟩,hs⟩,hn⟩,_⟩,hN⟩,hV⟩:=h;simp only [namesE,Bool.and_eq_true] at hN;simp only [valuesE,Bool.and_eq_true,Bool.or_eq_true,Bool.not_eq_true',decide_eq_true_eq] at hV;obtain ⟨⟨⟨⟨⟨v1,v2⟩,v3⟩,v4⟩,v5⟩,v6⟩:=hV;refine ⟨hk,ht,hs,hn,?_,?_,?_,?_,?_⟩
 ·rw [b1];refine ⟨fun hc=>?_,fun hc=>?_⟩
  ·have:=hN.2;rw [if_pos hc] at this;simp only [collV,decide_eq_true_eq] at this;exact this.2.1
  ·have:=hN.2;rw [if_neg hc] at this;simpa using this
 ·rw [b2];refine ⟨fun hc=>?_,fun hc=>?_⟩
  ·have:=hN.1;rw [if_pos hc] at this;simp only [Bool.and_eq_true,collV,decide_eq_true_eq] at this;exact this.1.2.1
  ·have:=hN.1;rw [if_neg hc] at this;simpa using this
 ·rw [b3];refine ⟨fun hc=>?_,fun hc=>?_⟩
  ·rcases v4 with h | h
   ·rw [hc] at h;cases h
   ·exact h
  ·exact v1.resolve_left hc
 ·rw [b4];refine ⟨fun hc=>?_,fun hc=>?_⟩
  ·rcases v5 with h | h
   ·rw [hc] at h;cases h
   ·simp only [mayDocV,decide_eq_true_eq] at h;exact h.2.1
  ·exact v2.resolve_left hc
 ·rw [b5];refine ⟨fun hc=>?_,fun hc=>?_⟩
  ·rcases v6 with h | h
   ·rw [hc] at h;cases h
   ·simp only [mayDeltasV,Bool.and_eq_true,decide_eq_true_eq] at h;exact h.1.1
  ·exact List.length_eq_zero_iff.1 (v3.resolve_left hc)
def optC (b:Bool) (s:Str):Str:=if b=true then s else []
def codE0 (e:Etr):Str:=grp (u64 e.term)++(b8 e.kind :: (grp (u64 e.session)++grp (u64 e.number)))
def codE1 (e:Etr):Str:=codE0 e++optC (hsB e.kind 1) (txtC e.coll)
def codE2 (e:Etr):Str:=codE1 e++optC (hsB e.kind 2) (txtC e.to)
def codE3 (e:Etr):Str:=codE2 e++optC (hsB e.kind 4) (codV e.id)
def codE4 (e:Etr):Str:=codE3 e++optC (hsB e.kind 8) (codV e.doc)
def codE (e:Etr):Str:=codE4 e++optC (hsB e.kind 16) (codDs e.deltas)
theorem codDs_len {l:List Dlt} (h:checkD l=0):(codDs l).length≤300000:=by
 rw [← accDs_end (i:=l.length) (by omega)];have:=accDs_len (checkD_all h) l.length (Nat.le_refl _);have:=checkD_len h;omega
theorem opt_len {b:Bool} {s:Str} {n:Nat} (h:b=true→s.length≤n):(optC b s).length≤n:=by
 unfold optC;split
 ·exact h (by assumption)
 ·simp
theorem codE0_len (e:Etr):(codE0 e).length≤31:=by
 have:=grp_l e.term;have:=grp_l e.session;have:=grp_l e.number;simp only [codE0,List.length_append,List.length_cons];omega
theorem codE1_len {e:Etr} (h:EOk e):(codE1 e).length≤73:=by
 have:=codE0_len e;have:=opt_len (b:=hsB e.kind 1) (s:=txtC e.coll) (n:=42) fun hb=>by have:=h.c.1 hb;have:=textN_le e.coll;rw [txtC_len];omega
 rw [codE1,List.length_append];omega
theorem codE2_len {e:Etr} (h:EOk e):(codE2 e).length≤115:=by
 have:=codE1_len h;have:=opt_len (b:=hsB e.kind 2) (s:=txtC e.to) (n:=42) fun hb=>by have:=h.o.1 hb;have:=textN_le e.to;rw [txtC_len];omega
 rw [codE2,List.length_append];omega
theorem codE3_len {e:Etr} (h:EOk e):(codE3 e).length≤4211:=by
 have:=codE2_len h;have:=opt_len (b:=hsB e.kind 4) (s:=codV e.id) (n:=4096) fun hb=>by have:=h.i.1 hb;rw [codV_len (check_may this)];exact check_size this
 rw [codE3,List.length_append];omega
theorem codE4_len {e:Etr} (h:EOk e):(codE4 e).length≤8307:=by
 have:=codE3_len h;have:=opt_len (b:=hsB e.kind 8) (s:=codV e.doc) (n:=4096) fun hb=>by have:=h.d.1 hb;rw [codV_len (check_may this)];exact check_size this
 rw [codE4,List.length_append];omega
theorem optC_yes {b:Bool} {s a:Str} (h:b=true):bytesD a++bytesD s=bytesD (a++optC b s):=by rw [optC,if_pos h,bytesD_append]
theorem optC_no {b:Bool} {s a:Str} (h:¬ b=true):bytesD a=bytesD (a++optC b s):=by rw [optC,if_neg h,List.append_nil]
theorem codE0_eq (e:Etr):([]:List D)++bytesD (grp (u64 e.term))++[D.int .u8 (IntKind.u8.wrap e.kind)]++bytesD (grp (u64 e.session))++bytesD (grp (u64 e.number))=bytesD (codE0 e):=by
 rw [bytesD_one];simp only [List.nil_append,← bytesD_append,codE0,List.append_assoc];rfl
theorem fld_pos {k:Int} (h:1≤k∧k≤7):(if fieldsV k < 0 then 0 else fieldsV k)=fieldsV k:=by
 rw [if_neg];unfold fieldsV
 repeat' split
 all_goals first | decide | omega
theorem hsB_pos {k:Int} (h:1≤k∧k≤7) (b:Int):hsB k b=decide (bitsOf .and .i64 (fieldsV k) b≠0):=by rw [hsB,fld_pos h]
theorem fn50:FnOk Tryz.prog 50 64 [2,3] (bodyOf Tryz.f50):=⟨Tryz.f50,Tryz.func50,by kernel_rfl,by decide,by kernel_rfl,by kernel_rfl⟩
theorem s50 (e:Etr) (ok:OkE e) (hm:mayE e=true):RDSpec Tryz.prog 50 [.d (encE e)] 5 1 (bytesD (codE e)) (.int .i64 0):=by
 have hE:=mayE_ok hm;have l1:=codE1_len hE;have l2:=codE2_len hE;have l3:=codE3_len hE;have l4:=codE4_len hE;have l0:=codE0_len e;refine RDSpec.of fn50 (by simp) fun o nk=>?_;refine wr ?_;refine u_step (g_box rfl fun o2 hb2 hk2=>?_);refine ua ?_;refine ua ?_;refine u_nil ?_;refine WP.seq fun K3 hK3=>?_;refine wr ?_;refine ug th30 hb2 ?_;refine u_step (o_pcall (s45 e ok) rfl ?_);refine uN ?_;refine u_nil ?_;refine wc (fun hc5=>?_) (fun hc5=>?_) <;> try simp only [Q0,Q1,Q2,Q3,Q4,Q5,Q6,Q7,Q8,ge_iff_le,gt_iff_lt] at hc5
 ·
  have hgo:=hc5;rw [hm] at hgo;simp at hgo
  skip
 ·
  refine WP.skip (hK3 _ (wr (uf th30 th3 hb2 ?_)));refine ul th3 hb2 ?_;refine u_step (o_pcall (s99 e.kind) rfl ?_);refine ua (u_nil (WP.seq fun K7 hK7=>?_));refine WP.dr4 [.q 0 0,.q 0 0,.w 0,.q 0 1,.q 0 1,.q 0 1,.q 0 1,.w 1,.q 0 2,.q 0 2,.w 2,.q 0 3,.q 0 3,.w 3,.q 4 4] [2,7,10,13] ((nk+1)+1) (((nk+1)+1)+1) ((((nk+1)+1)+1)+1) (((((nk+1)+1)+1)+1)+1) tabOk (by kernel_rfl) rfl (by kernel_rfl) (by kernel_rfl) ?_;apply Exists.intro;apply Exists.intro;apply Exists.intro;apply Exists.intro;refine e_step rfl (o_fa_loc rfl th30 rfl rfl th3 (by decide) hb2 ⟨rfl,rfl,rfl⟩) ?_;refine e_step rfl (o_ld_loc rfl th3 rfl hb2 rfl ⟨rfl,rfl,rfl⟩) ?_;refine e_w rfl rfl (w_wcallN (s104 [] e.term hE.t.1 (by have:=hE.t.2;omega) (by simp)) rfl ⟨rfl,rfl,rfl⟩) ?_;refine e_step2 rfl rfl (o_fa_loc rfl th30 rfl rfl th3 (by decide) hb2 ⟨rfl,rfl,rfl⟩) (o_fa_loc rfl th30 rfl rfl th3 (by decide) ((upd_ne _ _ (by omega)).trans hb2) ⟨rfl,rfl,rfl⟩) ?_;refine e_step2 rfl rfl (o_ld_loc rfl th3 rfl hb2 rfl ⟨rfl,rfl,rfl⟩) (o_ld_loc rfl th3 rfl ((upd_ne _ _ (by omega)).trans hb2) rfl ⟨rfl,rfl,rfl⟩) ?_;refine e_step2 rfl rfl (o_cv_int rfl th3 th5 rfl ⟨rfl,rfl,rfl⟩) (o_cv_int rfl th3 th5 rfl ⟨rfl,rfl,rfl⟩) ?_;refine e_step2 rfl rfl (o_bs rfl th52 rfl th5 rfl rfl (by decide) rfl (by decide) (by decide) ⟨rfl,rfl,rfl⟩) (o_bs rfl th52 rfl th5 rfl rfl (by decide) rfl (by decide) (by decide) ⟨rfl,rfl,rfl⟩) ?_;refine e_w rfl rfl (w_ap rfl rfl th52 rfl th5 rfl rfl (by decide) rfl (upd_same _ _ _) (by have:=grp_l e.term;simp [bytesD_length];omega) (by have:=grp_l e.term;simp [bytesD_length];omega) ⟨rfl,rfl,rfl⟩) ?_;refine e_step3 rfl rfl rfl (o_fa_loc rfl th30 rfl rfl th3 (by decide) hb2 ⟨rfl,rfl,rfl⟩) (o_fa_loc rfl th30 rfl rfl th3 (by decide) ((upd_ne _ _ (by omega)).trans hb2) ⟨rfl,rfl,rfl⟩) (o_fa_loc rfl th30 rfl rfl th3 (by decide) (((upd_ne _ _ (by omega)).trans (upd_ne _ _ (by omega))).trans ((upd_ne _ _ (by omega)).trans hb2)) ⟨rfl,rfl,rfl⟩) ?_;refine e_step3 rfl rfl rfl (o_ld_loc rfl th3 rfl hb2 rfl ⟨rfl,rfl,rfl⟩) (o_ld_loc rfl th3 rfl ((upd_ne _ _ (by omega)).trans hb2) rfl ⟨rfl,rfl,rfl⟩) (o_ld_loc rfl th3 rfl (((upd_ne _ _ (by omega)).trans (upd_ne _ _ (by omega))).trans ((upd_ne _ _ (by omega)).trans hb2)) rfl ⟨rfl,rfl,rfl⟩) ?_;refine e_w rfl rfl (w_wcallR (s104 ([]++bytesD (grp (u64 e.term))++[D.int .u8 (IntKind.u8.wrap e.kind)]) e.session hE.s.1 (by have:=hE.s.2;omega) (by have:=grp_l e.term;have:=grp_l e.session;simp [bytesD_length];omega)) (upd_same _ _ _) rfl ⟨rfl,rfl,rfl⟩) ?_;refine e_step4 rfl rfl rfl rfl (o_fa_loc rfl th30 rfl rfl th3 (by decide) hb2 ⟨rfl,rfl,rfl⟩) (o_fa_loc rfl th30 rfl rfl th3 (by decide) ((upd_ne _ _ (by omega)).trans hb2) ⟨rfl,rfl,rfl⟩) (o_fa_loc rfl th30 rfl rfl th3 (by decide) (((upd_ne _ _ (by omega)).trans (upd_ne _ _ (by omega))).trans ((upd_ne _ _ (by omega)).trans hb2)) ⟨rfl,rfl,rfl⟩) (o_fa_loc rfl th30 rfl rfl th3 (by decide) (((upd_ne _ _ (by omega)).trans (upd_ne _ _ (by omega))).trans (((upd_ne _ _ (by omega)).trans (upd_ne _ _ (by omega))).trans ((upd_ne _ _ (by omega)).trans hb2))) ⟨rfl,rfl,rfl⟩) ?_;refine e_step4 rfl rfl rfl rfl (o_ld_loc rfl th3 rfl hb2 rfl ⟨rfl,rfl,rfl⟩) (o_ld_loc rfl th3 rfl ((upd_ne _ _ (by omega)).trans hb2) rfl ⟨rfl,rfl,rfl⟩) (o_ld_loc rfl th3 rfl (((upd_ne _ _ (by omega)).trans (upd_ne _ _ (by omega))).trans ((upd_ne _ _ (by omega)).trans hb2)) rfl ⟨rfl,rfl,rfl⟩) (o_ld_loc rfl th3 rfl (((upd_ne _ _ (by omega)).trans (upd_ne _ _ (by omega))).trans (((upd_ne _ _ (by omega)).trans (upd_ne _ _ (by omega))).trans ((upd_ne _ _ (by omega)).trans hb2))) rfl ⟨rfl,rfl,rfl⟩) ?_;refine e_w rfl rfl (w_wcallR (s104 (([]++bytesD (grp (u64 e.term))++[D.int .u8 (IntKind.u8.wrap e.kind)])++bytesD (grp (u64 e.session))) e.number hE.n.1 (by have:=hE.n.2;omega) (by have:=grp_l e.term;have:=grp_l e.session;simp [bytesD_length];omega)) (upd_same _ _ _) rfl ⟨rfl,rfl,rfl⟩) ?_;refine e_step rfl (o_assignV (v:=.row _) rfl ⟨rfl,rfl,rfl⟩) ?_;refine e_nil rfl fun o12 ho12=>?_;have hbb2_12:=(ho12 _).trans (((upd_ne _ _ (by omega)).trans (upd_ne _ _ (by omega))).trans (((upd_ne _ _ (by omega)).trans (upd_ne _ _ (by omega))).trans (((upd_ne _ _ (by omega)).trans (upd_ne _ _ (by omega))).trans ((upd_ne _ _ (by omega)).trans hb2))));have hbr11_12:=(ho12 _).trans (upd_same _ _ _);have hk12:∀ t,t < nk→o12 t=o2 t:=fun t ht=>(ho12 t).trans (((upd_ne _ _ (by omega)).trans (upd_ne _ _ (by omega))).trans (((upd_ne _ _ (by omega)).trans (upd_ne _ _ (by omega))).trans (((upd_ne _ _ (by omega)).trans (upd_ne _ _ (by omega))).trans (upd_ne _ _ (by omega)))));refine hK7 _ ?_;refine WP.seqI (ι:=Nat×(Nat→Option AO)×Nat) (fun ⟨p1,oA,m1⟩=>⟨al [(1,.loc nk 0),(4,.d (.int .i64 (fieldsV e.kind))),(5,.row p1)],oA,m1⟩) (fun ⟨p1,oA,m1⟩=>nk < p1∧p1 < m1∧oA nk=some (.box (([.int .i64 e.term,.int .i64 e.kind,.str e.coll,.str e.to,.int .i64 (e.id).kind,.int .i64 (e.id).int,.str (e.id).text,.sl 5 (encVs (e.id).items),.sl 1 ((e.id).names.map .str),.int .i64 (e.doc).kind,.int .i64 (e.doc).int,.str (e.doc).text,.sl 5 (encVs (e.doc).items),.sl 1 ((e.doc).names.map .str),.sl 8 (e.deltas.map encD),.int .i64 e.session,.int .i64 e.number]:List D).map .d))∧oA p1=some (.row 5 1 (bytesD (codE1 e)))∧∀ t,t < nk→oA t=o t) ?_ (fun ⟨p1,oA,m1⟩ hA=>?_)
  ·
   have hR0:=(hbr11_12).trans (congrArg (fun z=>some (AO.row 5 1 z)) (codE0_eq e));have hB0:=hbb2_12;refine wr ?_;refine um ?_;refine ub ?_;refine ub ?_;refine u_nil ?_;refine wc (fun hc14=>?_) (fun hc14=>?_) <;> try simp only [Q0,Q1,Q2,Q3,Q4,Q5,Q6,Q7,Q8,ge_iff_le,gt_iff_lt] at hc14
   ·
    have hb1:hsB e.kind 1=true:=by rw [hsB_pos hE.k];have hgo:=hc14;simpa using hgo
    replace hc14:=hb1;refine WP.reg tabOk rfl ?_;refine u_step (o_moveV (v:=.row _) rfl ?_);refine uf th30 th9 hB0 ?_;refine ul th9 hB0 ?_;refine u_step (o_rcall (s86 e.coll (by have:=hE.c.1 hb1;omega)) rfl fun q15 o15 nk15 hqa15 hqb15 hb15 hk15=>?_);have hB0_15:=(hk15 _ (by omega)).trans hB0;have hR0_15:=(hk15 _ (by omega)).trans hR0;refine u_step (g_apr rfl rfl th52 rfl th5 rfl rfl (by decide) hR0_15 hb15 (by have:=hE.c.1 hb1;have:=grp_l e.coll.length;simp only [bytesD_length,List.length_append];omega) (by have:=hE.c.1 hb1;have:=grp_l e.coll.length;simp only [bytesD_length,List.length_append];omega) fun o16 hb16 hk16=>?_);have hB0_16:=(hk16 _ (by omega) (by omega)).trans hB0_15;have hb15_16:=(hk16 _ (by omega) (by omega)).trans hb15;refine u_step (o_assignV (v:=.row _) rfl ?_);refine u_nil ?_
    first | refine ⟨⟨_,o16,(nk15+1)⟩,⟨by omega,by omega,hB0_16,(hb16).trans (congrArg (fun z=>some (AO.row 5 1 z)) (optC_yes hc14)),(fun t ht=>(hk16 t (by omega) (by omega)).trans ((hk15 t (by omega)).trans ((hk12 t (by omega)).trans ((hk2 t (by omega))))))⟩,Le.al ?_⟩ | refine ⟨⟨_,o16,(nk15+1)⟩,⟨by omega,by omega,hB0_16,(hb16).trans (congrArg (fun z=>some (AO.row 5 1 z)) (optC_no hc14)),(fun t ht=>(hk16 t (by omega) (by omega)).trans ((hk15 t (by omega)).trans ((hk12 t (by omega)).trans ((hk2 t (by omega))))))⟩,Le.al ?_⟩
    simp only [List.forall_mem_cons];exact ⟨rfl,rfl,rfl,by simp⟩
   ·
    have hb1:¬ hsB e.kind 1=true:=by rw [hsB_pos hE.k];have hgo:=hc14;simpa using hgo
    replace hc14:=hb1;refine WP.skip ?_
    first | refine ⟨⟨_,o12,(((((nk+1)+1)+1)+1)+1)⟩,⟨by omega,by omega,hB0,(hR0).trans (congrArg (fun z=>some (AO.row 5 1 z)) (optC_yes hc14)),(fun t ht=>(hk12 t (by omega)).trans ((hk2 t (by omega))))⟩,Le.al ?_⟩ | refine ⟨⟨_,o12,(((((nk+1)+1)+1)+1)+1)⟩,⟨by omega,by omega,hB0,(hR0).trans (congrArg (fun z=>some (AO.row 5 1 z)) (optC_no hc14)),(fun t ht=>(hk12 t (by omega)).trans ((hk2 t (by omega))))⟩,Le.al ?_⟩
    simp only [List.forall_mem_cons];exact ⟨rfl,rfl,rfl,by simp⟩
  ·
   obtain ⟨hn1,hm1,hB1,hR1,hF1⟩:=hA;refine WP.seqI (ι:=Nat×(Nat→Option AO)×Nat) (fun ⟨p2,oB,m2⟩=>⟨al [(1,.loc nk 0),(4,.d (.int .i64 (fieldsV e.kind))),(5,.row p2)],oB,m2⟩) (fun ⟨p2,oB,m2⟩=>nk < p2∧p2 < m2∧oB nk=some (.box (([.int .i64 e.term,.int .i64 e.kind,.str e.coll,.str e.to,.int .i64 (e.id).kind,.int .i64 (e.id).int,.str (e.id).text,.sl 5 (encVs (e.id).items),.sl 1 ((e.id).names.map .str),.int .i64 (e.doc).kind,.int .i64 (e.doc).int,.str (e.doc).text,.sl 5 (encVs (e.doc).items),.sl 1 ((e.doc).names.map .str),.sl 8 (e.deltas.map encD),.int .i64 e.session,.int .i64 e.number]:List D).map .d))∧oB p2=some (.row 5 1 (bytesD (codE2 e)))∧∀ t,t < nk→oB t=o t) ?_ (fun ⟨p2,oB,m2⟩ hA=>?_)
   ·
    refine wr ?_;refine um ?_;refine ub ?_;refine ub ?_;refine u_nil ?_;refine wc (fun hc18=>?_) (fun hc18=>?_) <;> try simp only [Q0,Q1,Q2,Q3,Q4,Q5,Q6,Q7,Q8,ge_iff_le,gt_iff_lt] at hc18
    ·
     have hb2:hsB e.kind 2=true:=by rw [hsB_pos hE.k];have hgo:=hc18;simpa using hgo
     replace hc18:=hb2;refine WP.reg tabOk rfl ?_;refine u_step (o_moveV (v:=.row _) rfl ?_);refine uf th30 th9 hB1 ?_;refine ul th9 hB1 ?_;refine u_step (o_rcall (s86 e.to (by have:=hE.o.1 hb2;omega)) rfl fun q19 o19 nk19 hqa19 hqb19 hb19 hk19=>?_);have hB1_19:=(hk19 _ (by omega)).trans hB1;have hR1_19:=(hk19 _ (by omega)).trans hR1;refine u_step (g_apr rfl rfl th52 rfl th5 rfl rfl (by decide) hR1_19 hb19 (by have:=hE.o.1 hb2;have:=grp_l e.to.length;simp only [bytesD_length,List.length_append];omega) (by have:=hE.o.1 hb2;have:=grp_l e.to.length;simp only [bytesD_length,List.length_append];omega) fun o20 hb20 hk20=>?_);have hB1_20:=(hk20 _ (by omega) (by omega)).trans hB1_19;have hb19_20:=(hk20 _ (by omega) (by omega)).trans hb19;refine u_step (o_assignV (v:=.row _) rfl ?_);refine u_nil ?_
     first | refine ⟨⟨_,o20,(nk19+1)⟩,⟨by omega,by omega,hB1_20,(hb20).trans (congrArg (fun z=>some (AO.row 5 1 z)) (optC_yes hc18)),(fun t ht=>(hk20 t (by omega) (by omega)).trans ((hk19 t (by omega)).trans ((hF1 t (by omega)))))⟩,Le.al ?_⟩ | refine ⟨⟨_,o20,(nk19+1)⟩,⟨by omega,by omega,hB1_20,(hb20).trans (congrArg (fun z=>some (AO.row 5 1 z)) (optC_no hc18)),(fun t ht=>(hk20 t (by omega) (by omega)).trans ((hk19 t (by omega)).trans ((hF1 t (by omega)))))⟩,Le.al ?_⟩
     simp only [List.forall_mem_cons];exact ⟨rfl,rfl,rfl,by simp⟩
    ·
     have hb2:¬ hsB e.kind 2=true:=by rw [hsB_pos hE.k];have hgo:=hc18;simpa using hgo
     replace hc18:=hb2;refine WP.skip ?_
     first | refine ⟨⟨_,oA,m1⟩,⟨by omega,by omega,hB1,(hR1).trans (congrArg (fun z=>some (AO.row 5 1 z)) (optC_yes hc18)),(fun t ht=>(hF1 t (by omega)))⟩,Le.al ?_⟩ | refine ⟨⟨_,oA,m1⟩,⟨by omega,by omega,hB1,(hR1).trans (congrArg (fun z=>some (AO.row 5 1 z)) (optC_no hc18)),(fun t ht=>(hF1 t (by omega)))⟩,Le.al ?_⟩
     simp only [List.forall_mem_cons];exact ⟨rfl,rfl,rfl,by simp⟩
   ·
    obtain ⟨hn2,hm2,hB2,hR2,hF2⟩:=hA;refine WP.seqI (ι:=Nat×(Nat→Option AO)×Nat) (fun ⟨p3,oC,m3⟩=>⟨al [(1,.loc nk 0),(4,.d (.int .i64 (fieldsV e.kind))),(5,.row p3)],oC,m3⟩) (fun ⟨p3,oC,m3⟩=>nk < p3∧p3 < m3∧oC nk=some (.box (([.int .i64 e.term,.int .i64 e.kind,.str e.coll,.str e.to,.int .i64 (e.id).kind,.int .i64 (e.id).int,.str (e.id).text,.sl 5 (encVs (e.id).items),.sl 1 ((e.id).names.map .str),.int .i64 (e.doc).kind,.int .i64 (e.doc).int,.str (e.doc).text,.sl 5 (encVs (e.doc).items),.sl 1 ((e.doc).names.map .str),.sl 8 (e.deltas.map encD),.int .i64 e.session,.int .i64 e.number]:List D).map .d))∧oC p3=some (.row 5 1 (bytesD (codE3 e)))∧∀ t,t < nk→oC t=o t) ?_ (fun ⟨p3,oC,m3⟩ hA=>?_)
    ·
     refine wr ?_;refine um ?_;refine ub ?_;refine ub ?_;refine u_nil ?_;refine wc (fun hc22=>?_) (fun hc22=>?_) <;> try simp only [Q0,Q1,Q2,Q3,Q4,Q5,Q6,Q7,Q8,ge_iff_le,gt_iff_lt] at hc22
     ·
      have hb4:hsB e.kind 4=true:=by rw [hsB_pos hE.k];have hgo:=hc22;simpa using hgo
      replace hc22:=hb4;refine WP.reg tabOk rfl ?_;refine u_step (o_moveV (v:=.row _) rfl ?_);refine uf th30 th27 hB2 ?_;refine ug th27 hB2 ?_;refine u_step (g_rcallF (us:=[.row _,.d _]) hR2 (rv (v:=e.id) (s87 e.id (bytesD (codE2 e)) (hE.i.1 hb4) ok.ri ok.si (by have:=ok.si;rw [bytesD_length];omega))) rfl (by simp only [List.map_cons,List.map_nil,SV.frz,if_true] <;> rfl) fun o23 hb23 hk23=>?_);have hB2_23:=(hk23 _ (by omega) (by omega)).trans hB2;refine u_step (o_assignV (v:=.row _) rfl ?_);refine u_nil ?_
      first | refine ⟨⟨_,o23,(m2+1)⟩,⟨by omega,by omega,hB2_23,(hb23).trans (congrArg (fun z=>some (AO.row 5 1 z)) (optC_yes hc22)),(fun t ht=>(hk23 t (by omega) (by omega)).trans ((hF2 t (by omega))))⟩,Le.al ?_⟩ | refine ⟨⟨_,o23,(m2+1)⟩,⟨by omega,by omega,hB2_23,(hb23).trans (congrArg (fun z=>some (AO.row 5 1 z)) (optC_no hc22)),(fun t ht=>(hk23 t (by omega) (by omega)).trans ((hF2 t (by omega))))⟩,Le.al ?_⟩
      simp only [List.forall_mem_cons];exact ⟨rfl,rfl,rfl,by simp⟩
     ·
      have hb4:¬ hsB e.kind 4=true:=by rw [hsB_pos hE.k];have hgo:=hc22;simpa using hgo
      replace hc22:=hb4;refine WP.skip ?_
      first | refine ⟨⟨_,oB,m2⟩,⟨by omega,by omega,hB2,(hR2).trans (congrArg (fun z=>some (AO.row 5 1 z)) (optC_yes hc22)),(fun t ht=>(hF2 t (by omega)))⟩,Le.al ?_⟩ | refine ⟨⟨_,oB,m2⟩,⟨by omega,by omega,hB2,(hR2).trans (congrArg (fun z=>some (AO.row 5 1 z)) (optC_no hc22)),(fun t ht=>(hF2 t (by omega)))⟩,Le.al ?_⟩
      simp only [List.forall_mem_cons];exact ⟨rfl,rfl,rfl,by simp⟩
    ·
     obtain ⟨hn3,hm3,hB3,hR3,hF3⟩:=hA;refine WP.seqI (ι:=Nat×(Nat→Option AO)×Nat) (fun ⟨p4,oD,m4⟩=>⟨al [(1,.loc nk 0),(4,.d (.int .i64 (fieldsV e.kind))),(5,.row p4)],oD,m4⟩) (fun ⟨p4,oD,m4⟩=>nk < p4∧p4 < m4∧oD nk=some (.box (([.int .i64 e.term,.int .i64 e.kind,.str e.coll,.str e.to,.int .i64 (e.id).kind,.int .i64 (e.id).int,.str (e.id).text,.sl 5 (encVs (e.id).items),.sl 1 ((e.id).names.map .str),.int .i64 (e.doc).kind,.int .i64 (e.doc).int,.str (e.doc).text,.sl 5 (encVs (e.doc).items),.sl 1 ((e.doc).names.map .str),.sl 8 (e.deltas.map encD),.int .i64 e.session,.int .i64 e.number]:List D).map .d))∧oD p4=some (.row 5 1 (bytesD (codE4 e)))∧∀ t,t < nk→oD t=o t) ?_ (fun ⟨p4,oD,m4⟩ hA=>?_)
     ·
      refine wr ?_;refine um ?_;refine ub ?_;refine ub ?_;refine u_nil ?_;refine wc (fun hc25=>?_) (fun hc25=>?_) <;> try simp only [Q0,Q1,Q2,Q3,Q4,Q5,Q6,Q7,Q8,ge_iff_le,gt_iff_lt] at hc25
      ·
       have hb8:hsB e.kind 8=true:=by rw [hsB_pos hE.k];have hgo:=hc25;simpa using hgo
       replace hc25:=hb8;refine WP.reg tabOk rfl ?_;refine u_step (o_moveV (v:=.row _) rfl ?_);refine uf th30 th27 hB3 ?_;refine ug th27 hB3 ?_;refine u_step (g_rcallF (us:=[.row _,.d _]) hR3 (rv (v:=e.doc) (s87 e.doc (bytesD (codE3 e)) (hE.d.1 hb8) ok.rd ok.sd (by have:=ok.sd;rw [bytesD_length];omega))) rfl (by simp only [List.map_cons,List.map_nil,SV.frz,if_true] <;> rfl) fun o26 hb26 hk26=>?_);have hB3_26:=(hk26 _ (by omega) (by omega)).trans hB3;refine u_step (o_assignV (v:=.row _) rfl ?_);refine u_nil ?_
       first | refine ⟨⟨_,o26,(m3+1)⟩,⟨by omega,by omega,hB3_26,(hb26).trans (congrArg (fun z=>some (AO.row 5 1 z)) (optC_yes hc25)),(fun t ht=>(hk26 t (by omega) (by omega)).trans ((hF3 t (by omega))))⟩,Le.al ?_⟩ | refine ⟨⟨_,o26,(m3+1)⟩,⟨by omega,by omega,hB3_26,(hb26).trans (congrArg (fun z=>some (AO.row 5 1 z)) (optC_no hc25)),(fun t ht=>(hk26 t (by omega) (by omega)).trans ((hF3 t (by omega))))⟩,Le.al ?_⟩
       simp only [List.forall_mem_cons];exact ⟨rfl,rfl,rfl,by simp⟩
      ·
       have hb8:¬ hsB e.kind 8=true:=by rw [hsB_pos hE.k];have hgo:=hc25;simpa using hgo
       replace hc25:=hb8;refine WP.skip ?_
       first | refine ⟨⟨_,oC,m3⟩,⟨by omega,by omega,hB3,(hR3).trans (congrArg (fun z=>some (AO.row 5 1 z)) (optC_yes hc25)),(fun t ht=>(hF3 t (by omega)))⟩,Le.al ?_⟩ | refine ⟨⟨_,oC,m3⟩,⟨by omega,by omega,hB3,(hR3).trans (congrArg (fun z=>some (AO.row 5 1 z)) (optC_no hc25)),(fun t ht=>(hF3 t (by omega)))⟩,Le.al ?_⟩
       simp only [List.forall_mem_cons];exact ⟨rfl,rfl,rfl,by simp⟩
     ·
      obtain ⟨hn4,hm4,hB4,hR4,hF4⟩:=hA;refine WP.seqI (ι:=Nat×(Nat→Option AO)×Nat) (fun ⟨p5,oE,m5⟩=>⟨al [(1,.loc nk 0),(4,.d (.int .i64 (fieldsV e.kind))),(5,.row p5)],oE,m5⟩) (fun ⟨p5,oE,m5⟩=>nk < p5∧p5 < m5∧oE nk=some (.box (([.int .i64 e.term,.int .i64 e.kind,.str e.coll,.str e.to,.int .i64 (e.id).kind,.int .i64 (e.id).int,.str (e.id).text,.sl 5 (encVs (e.id).items),.sl 1 ((e.id).names.map .str),.int .i64 (e.doc).kind,.int .i64 (e.doc).int,.str (e.doc).text,.sl 5 (encVs (e.doc).items),.sl 1 ((e.doc).names.map .str),.sl 8 (e.deltas.map encD),.int .i64 e.session,.int .i64 e.number]:List D).map .d))∧oE p5=some (.row 5 1 (bytesD (codE e)))∧∀ t,t < nk→oE t=o t) ?_ (fun ⟨p5,oE,m5⟩ hA=>?_)
      ·
       refine wr ?_;refine um ?_;refine ub ?_;refine ub ?_;refine u_nil ?_;refine wc (fun hc28=>?_) (fun hc28=>?_) <;> try simp only [Q0,Q1,Q2,Q3,Q4,Q5,Q6,Q7,Q8,ge_iff_le,gt_iff_lt] at hc28
       ·
        have hb16:hsB e.kind 16=true:=by rw [hsB_pos hE.k];have hgo:=hc28;simpa using hgo
        replace hc28:=hb16;refine WP.reg tabOk rfl ?_;refine u_step (o_moveV (v:=.row _) rfl ?_);refine uf th30 th28 hB4 ?_;refine ul th28 hB4 ?_;refine u_step (g_rcallF (us:=[.row _,.d _]) hR4 (s34 e.deltas (bytesD (codE4 e)) (hE.l.1 hb16) (ok.ds (checkD_len (hE.l.1 hb16))) (by rw [bytesD_length];omega)) rfl (by simp only [List.map_cons,List.map_nil,SV.frz,if_true] <;> rfl) fun o29 hb29 hk29=>?_);have hB4_29:=(hk29 _ (by omega) (by omega)).trans hB4;refine u_step (o_assignV (v:=.row _) rfl ?_);refine u_nil ?_
        first | refine ⟨⟨_,o29,(m4+1)⟩,⟨by omega,by omega,hB4_29,(hb29).trans (congrArg (fun z=>some (AO.row 5 1 z)) (optC_yes hc28)),(fun t ht=>(hk29 t (by omega) (by omega)).trans ((hF4 t (by omega))))⟩,Le.al ?_⟩ | refine ⟨⟨_,o29,(m4+1)⟩,⟨by omega,by omega,hB4_29,(hb29).trans (congrArg (fun z=>some (AO.row 5 1 z)) (optC_no hc28)),(fun t ht=>(hk29 t (by omega) (by omega)).trans ((hF4 t (by omega))))⟩,Le.al ?_⟩
        simp only [List.forall_mem_cons];exact ⟨rfl,rfl,rfl,by simp⟩
       ·
        have hb16:¬ hsB e.kind 16=true:=by rw [hsB_pos hE.k];have hgo:=hc28;simpa using hgo
        replace hc28:=hb16;refine WP.skip ?_
        first | refine ⟨⟨_,oD,m4⟩,⟨by omega,by omega,hB4,(hR4).trans (congrArg (fun z=>some (AO.row 5 1 z)) (optC_yes hc28)),(fun t ht=>(hF4 t (by omega)))⟩,Le.al ?_⟩ | refine ⟨⟨_,oD,m4⟩,⟨by omega,by omega,hB4,(hR4).trans (congrArg (fun z=>some (AO.row 5 1 z)) (optC_no hc28)),(fun t ht=>(hF4 t (by omega)))⟩,Le.al ?_⟩
        simp only [List.forall_mem_cons];exact ⟨rfl,rfl,rfl,by simp⟩
      ·
       obtain ⟨hn5,hm5,hB5,hR5,hF5⟩:=hA;refine wr ?_;refine u_step (o_moveV (v:=.row _) rfl ?_);refine u_step (o_assignV (v:=.row _) rfl ?_);refine ua (u_nil (WP.ret ?_));refine rrowd_ok rfl ?_ (by omega) (by omega) ?_ (fun t ht=>(hF5 t (by omega)))
       ·rfl
       exact hR5
theorem may1 {k i:Int} {t:Str} {xs:List Val} {ns:List Str} (hm:mayV (.mk k i t xs ns)=true) (h1:k=1):xs.length=0:=by
 subst h1;simp [mayV,kindOk] at hm;simpa using hm.2.1.2
def accR (k:Int) (xs:List Val) (ns:List Str) (i:Nat):Str:=if k=1 then [b8 k] else accC k xs ns i
theorem accR_le {k i:Int} {t:Str} {xs:List Val} {ns:List Str} (hm:mayV (.mk k i t xs ns)=true) (h2:¬ k=2) (h3:¬ k=3) (h4:¬ (k=4∨k=5)) (j:Nat) (hj:j≤xs.length):(accR k xs ns j).length≤11+12 * szVs xs+11 * szN ns:=by
 unfold accR;split
 ·simp;omega
 ·rename_i h1;rw [accC_len hm (may67 hm h1 h2 h3 h4) j hj];exact accS_le k xs ns j
theorem rcode0 {k:Int} {xs:List Val} {ns:List Str} {n:Nat} (h1:¬ k=1) (h:n=xs.length):[D.int .u8 (IntKind.u8.wrap k)]++bytesD (grp (u64 (n:Int)))=bytesD (accR k xs ns 0):=by
 rw [accR,if_neg h1];simpa using code0 (ys:=[]) (k:=k) (ns:=ns) h
theorem rcode1 {k:Int} {xs:List Val} {ns:List Str} (h1:k=1):[D.int .u8 (IntKind.u8.wrap k)]=bytesD (accR k xs ns 0):=by
 rw [accR,if_pos h1,bytesD_one]
theorem rcodeA {k:Int} {xs:List Val} {ns:List Str} {i:Nat} (h:i < xs.length) (h1:¬ k=1) (h7:¬ k=7):bytesD (accR k xs ns i)++bytesD (codV (xs[i]'h))=bytesD (accR k xs ns (i+1)):=by
 simp only [accR,if_neg h1];simpa using codeA (ys:=[]) h h7
theorem rcodeB {k:Int} {xs:List Val} {ns:List Str} {i:Nat} (h:i < xs.length) (hn:i < ns.length) (h1:¬ k=1) (h7:k=7):bytesD (accR k xs ns i)++bytesD (grp (u64 (ns[i]'hn).length)++ns[i]'hn)++bytesD (codV (xs[i]'h))=bytesD (accR k xs ns (i+1)):=by
 simp only [accR,if_neg h1];simpa using codeB (ys:=[]) h hn h7
theorem accR_end {k i:Int} {t:Str} {xs:List Val} {ns:List Str} (h2:¬ k=2) (h3:¬ k=3) (h4:¬ (k=4∨k=5)):accR k xs ns xs.length=codV (.mk k i t xs ns):=by
 by_cases h1:k=1
 ·simp only [accR,if_pos h1,codV]
 ·rw [accR,if_neg h1,accC_end h1 h2 h3 h4]
theorem rv1 {P:Program} {f:FuncId} {v:Val} {e z:Nat} {xs:List D} (h:RSpec P f [.d (encV v)] e z xs):RSpec P f [.d (.agg (valCells v))] e z xs:=encV_eq v ▸ h
theorem fn90:FnOk Tryz.prog 90 70 [2] (bodyOf Tryz.f90):=⟨Tryz.f90,Tryz.func90,by kernel_rfl,by decide,by kernel_rfl,by kernel_rfl⟩
theorem s90A (m:Nat):∀ v:Val,SizeOf.sizeOf v < m→mayV v=true→rngV v→szV v≤1099511627776→RSpec Tryz.prog 90 [.d (encV v)] 5 1 (bytesD (codV v)):=by
 induction m with
 | zero=>intros;omega
 | succ m ih=>
  rintro ⟨kd,it,tx,xs,ns⟩ hv hmy hrg hsz;have hsz2:1+tx.length+szVs xs+szN ns≤1099511627776:=hsz;have hxl:=szVs_len xs;have hnl:=szN_len ns;have hln:=encVs_length xs;have hc1:=cntN_le xs.length;have hz1:=zig_le it;have ht1:=grp_l tx.length;refine RSpec.of fn90 (by simp) fun o nk=>?_;refine wr ?_;refine u_step (g_box rfl fun o2 hb2 hk2=>?_);refine ua (u_nil (wr (uf th27 th3 hb2 ?_)));refine ul th3 hb2 ?_;refine uc th3 th5 ?_;refine u_step (g_bsr rfl th52 rfl th5 rfl rfl (by decide) rfl (by decide) (by decide) fun o4 hb4 hk4=>?_);have hb2_4:=(hk4 _ (by omega)).trans hb2;refine u_step (o_assignV (v:=.row _) rfl ?_);refine u_nil ?_;refine WP.seqI (ι:=Nat×(Nat→Option AO)×Nat) (fun ⟨p1,oA,m1⟩=>⟨al [(1,.loc nk 0),(3,.row p1)],oA,m1⟩) (fun ⟨p1,oA,m1⟩=>(¬ kd=2∧¬ kd=3∧¬ kd=4∧¬ kd=5)∧nk < p1∧p1 < m1∧oA nk=some (.box (([.int .i64 kd,.int .i64 it,.str tx,.sl 5 (encVs xs),.sl 1 (ns.map .str)]:List D).map .d))∧oA p1=some (.row 5 1 (bytesD (accR kd xs ns 0)))∧∀ t,t < nk→oA t=o t) ?_ (fun ⟨p1,oA,m1⟩ hA=>?_)
  ·
   refine wr (uf th27 th3 hb2_4 ?_);refine ul th3 hb2_4 ?_;refine u_nil (WP.block (wr (ub (ua (u_nil ?_)))));refine wc (fun hc7=>?_) (fun hc7=>?_)
   ·
    simp at hc7;refine wr ?_;refine u_step (o_moveV (v:=.row _) rfl ?_);refine uf th27 th3 hb2_4 ?_;refine ul th3 hb2_4 ?_;refine uc th3 th5 ?_;refine u_step (o_bs rfl th52 rfl th5 rfl rfl (by decide) rfl (by decide) (by decide) ?_);refine u_step (g_ap rfl rfl th52 rfl th5 rfl rfl (by decide) rfl hb4 (by simp) (by simp) fun o9 hb9 hk9=>?_);have hb2_9:=(hk9 _ (by omega) (by omega)).trans hb2_4;refine u_step (o_assignV (v:=.row _) rfl ?_);refine u_nil (WP.ret ?_);refine rrow_okx rfl (by omega) (by omega) hb9 (fun t ht=>(hk9 t (by omega) (by omega)).trans ((hk4 t (by omega)).trans ((hk2 t (by omega))))) ?_;exact by simpa using cod2 (ys:=[]) (by omega) hc7
   ·
    simp at hc7;refine wr (ub (ua (u_nil ?_)));refine wc (fun hc11=>?_) (fun hc11=>?_)
    ·
     simp at hc11;refine wr ?_;refine u_step (o_moveV (v:=.row _) rfl ?_);refine uf th27 th3 hb2_4 ?_;refine ul th3 hb2_4 ?_;refine u_step (o_rcall (s141 it hrg.1.1 hrg.1.2) rfl fun q13 o13 nk13 hqa13 hqb13 hb13 hk13=>?_);have hb2_13:=(hk13 _ (by omega)).trans hb2_4;have hb4_13:=(hk13 _ (by omega)).trans hb4;refine u_step (g_apr rfl rfl th52 rfl th5 rfl rfl (by decide) hb4_13 hb13 (by rw [bytesD_length];simp;omega) (by rw [bytesD_length];simp;omega) fun o14 hb14 hk14=>?_);have hb2_14:=(hk14 _ (by omega) (by omega)).trans hb2_13;have hb13_14:=(hk14 _ (by omega) (by omega)).trans hb13;refine u_step (o_assignV (v:=.row _) rfl ?_);refine u_nil (WP.ret ?_);refine rrow_okx rfl (by omega) (by omega) hb14 (fun t ht=>(hk14 t (by omega) (by omega)).trans ((hk13 t (by omega)).trans ((hk4 t (by omega)).trans ((hk2 t (by omega)))))) ?_;exact by simpa using cod3 (ys:=[]) (by omega) (by omega) hc11
    ·
     simp at hc11;refine WP.seqJ ⟨al [(1,.loc nk 0),(3,.row (nk+1)),(10,.d (.int .i64 kd)),(26,.d (.bool (decide (kd=4∨kd=5))))],o4,((nk+1)+1)⟩ ?_ ?_
     ·
      refine wr (ub (ua (u_nil ?_)));refine wc (fun hc16=>?_) (fun hc16=>?_)
      ·
       simp at hc16;refine WP.skip ?_;refine Le.al ?_;simp only [List.forall_mem_cons];have hl2:=hc16;refine ⟨rfl,rfl,rfl,?_,by simp⟩;refine congrArg (fun z=>SV.d (.bool z)) ?_;rw [Bool.eq_iff_iff,decide_eq_true_iff];simp at hl2 ⊢;omega
      ·
       simp at hc16;refine WP.reg tabOk rfl ?_;refine ub (ua (u_nil ?_));refine Le.al ?_;simp only [List.forall_mem_cons];have hl2:=hc16;refine ⟨rfl,rfl,rfl,?_,by simp⟩;refine congrArg (fun z=>SV.d (.bool z)) ?_;rw [Bool.eq_iff_iff,decide_eq_true_iff];simp at hl2 ⊢;omega
     ·
      refine wc (fun hc17=>?_) (fun hc17=>?_)
      ·
       simp at hc17;refine wr ?_;refine u_step (o_moveV (v:=.row _) rfl ?_);refine uf th27 th9 hb2_4 ?_;refine ul th9 hb2_4 ?_;refine u_step (o_rcall (s89 tx (by omega)) rfl fun q19 o19 nk19 hqa19 hqb19 hb19 hk19=>?_);have hb2_19:=(hk19 _ (by omega)).trans hb2_4;have hb4_19:=(hk19 _ (by omega)).trans hb4;refine u_step (g_apr rfl rfl th52 rfl th5 rfl rfl (by decide) hb4_19 hb19 (by rw [bytesD_length];simp;omega) (by rw [bytesD_length];simp;omega) fun o20 hb20 hk20=>?_);have hb2_20:=(hk20 _ (by omega) (by omega)).trans hb2_19;have hb19_20:=(hk20 _ (by omega) (by omega)).trans hb19;refine u_step (o_assignV (v:=.row _) rfl ?_);refine u_nil (WP.ret ?_);refine rrow_okx rfl (by omega) (by omega) hb20 (fun t ht=>(hk20 t (by omega) (by omega)).trans ((hk19 t (by omega)).trans ((hk4 t (by omega)).trans ((hk2 t (by omega)))))) ?_;exact by simpa using cod4 (ys:=[]) (by omega) (by omega) (by omega) hc17
      ·
       simp at hc17;refine WP.seqJ ⟨al [(1,.loc nk 0),(3,.row (nk+1)),(10,.d (.int .i64 kd)),(34,.d (.bool (decide (kd=6∨kd=7))))],o4,((nk+1)+1)⟩ ?_ ?_
       ·
        refine wr (ub (ua (u_nil ?_)));refine wc (fun hc22=>?_) (fun hc22=>?_)
        ·
         simp at hc22;refine WP.skip ?_;refine Le.al ?_;simp only [List.forall_mem_cons];have hl2:=hc22;refine ⟨rfl,rfl,rfl,?_,by simp⟩;refine congrArg (fun z=>SV.d (.bool z)) ?_;rw [Bool.eq_iff_iff,decide_eq_true_iff];simp at hl2 ⊢;omega
        ·
         simp at hc22;refine WP.reg tabOk rfl ?_;refine ub (ua (u_nil ?_));refine Le.al ?_;simp only [List.forall_mem_cons];have hl2:=hc22;refine ⟨rfl,rfl,rfl,?_,by simp⟩;refine congrArg (fun z=>SV.d (.bool z)) ?_;rw [Bool.eq_iff_iff,decide_eq_true_iff];simp at hl2 ⊢;omega
       ·
        refine wc (fun hc23=>?_) (fun hc23=>?_)
        ·
         simp at hc23;refine WP.reg tabOk rfl ?_;refine u_step (o_moveV (v:=.row _) rfl ?_);refine uf th27 th25 hb2_4 ?_;refine ul th25 hb2_4 ?_;refine un th25 ?_;refine u_step (o_rcall (s88 (encVs xs).length) rfl fun q24 o24 nk24 hqa24 hqb24 hb24 hk24=>?_);have hb2_24:=(hk24 _ (by omega)).trans hb2_4;have hb4_24:=(hk24 _ (by omega)).trans hb4;refine u_step (g_apr rfl rfl th52 rfl th5 rfl rfl (by decide) hb4_24 hb24 (by have:=grp_l (encVs xs).length;rw [bytesD_length];simp;omega) (by have:=grp_l (encVs xs).length;rw [bytesD_length];simp;omega) fun o25 hb25 hk25=>?_);have hb2_25:=(hk25 _ (by omega) (by omega)).trans hb2_24;have hb24_25:=(hk25 _ (by omega) (by omega)).trans hb24;refine u_step (o_assignV (v:=.row _) rfl ?_);refine u_nil ?_
         first | refine ⟨⟨_,o25,(nk24+1)⟩,⟨by omega,by omega,by omega,hb2_25,(hb25).trans (congrArg (fun z=>some (AO.row 5 1 z)) (rcode0 (by omega) (encVs_length xs))),(fun t ht=>(hk25 t (by omega) (by omega)).trans ((hk24 t (by omega)).trans ((hk4 t (by omega)).trans ((hk2 t (by omega))))))⟩,Le.al ?_⟩ | refine ⟨⟨_,o25,(nk24+1)⟩,⟨by omega,by omega,by omega,hb2_25,(hb25).trans (congrArg (fun z=>some (AO.row 5 1 z)) (rcode1 (by by_cases h1:kd=1;exact h1;have:=may67 hmy h1 (by omega) (by omega) (by omega);omega))),(fun t ht=>(hk25 t (by omega) (by omega)).trans ((hk24 t (by omega)).trans ((hk4 t (by omega)).trans ((hk2 t (by omega))))))⟩,Le.al ?_⟩
         simp only [List.forall_mem_cons];exact ⟨rfl,rfl,by simp⟩
        ·
         simp at hc23;refine WP.skip ?_
         first | refine ⟨⟨_,o4,((nk+1)+1)⟩,⟨by omega,by omega,by omega,hb2_4,(hb4).trans (congrArg (fun z=>some (AO.row 5 1 z)) (rcode0 (by omega) (encVs_length xs))),(fun t ht=>(hk4 t (by omega)).trans ((hk2 t (by omega))))⟩,Le.al ?_⟩ | refine ⟨⟨_,o4,((nk+1)+1)⟩,⟨by omega,by omega,by omega,hb2_4,(hb4).trans (congrArg (fun z=>some (AO.row 5 1 z)) (rcode1 (by by_cases h1:kd=1;exact h1;have:=may67 hmy h1 (by omega) (by omega) (by omega);omega))),(fun t ht=>(hk4 t (by omega)).trans ((hk2 t (by omega))))⟩,Le.al ?_⟩
         simp only [List.forall_mem_cons];exact ⟨rfl,rfl,by simp⟩
  ·
   obtain ⟨⟨hk2,hk3,hk4,hk5⟩,hn1,hm1,hB1,hR1,hF1⟩:=hA;refine WP.seq fun K26 hK26=>?_;refine wr (ua (u_nil (WP.block ?_)));refine WP.loopL (ι:=Nat×Nat×(Nat→Option AO)×Nat) (fun ⟨i,p,o2,nk2⟩=>⟨al [(1,.loc nk 0),(3,.row p),(4,.d (.int .i64 i))],o2,nk2⟩) (fun ⟨i,p,o2,nk2⟩=>i≤xs.length∧nk < p∧p < nk2∧o2 nk=some (.box (([.int .i64 kd,.int .i64 it,.str tx,.sl 5 (encVs xs),.sl 1 (ns.map .str)]:List D).map .d))∧o2 p=some (.row 5 1 (bytesD (accR kd xs ns i)))∧(∀ t,t < nk→o2 t=o t)) (fun ⟨i,p,o2,nk2⟩=>xs.length - i) (fun ⟨i,p,o2,nk2⟩ hA=>?_) ⟨0,p1,oA,m1⟩ ?_ ?_
   ·
    obtain ⟨hle,hnp,hpn,hob,hrw,hfr⟩:=hA;refine WP.seq fun K28 hK28=>?_;refine wr (um (uf th27 th25 hob ?_));refine ul th25 hob ?_;refine un th25 ?_;refine ub (u_nil ?_);refine wc (fun hc30=>?_) (fun hc30=>?_)
    ·
     simp at hc30;refine WP.skip (hK28 _ (WP.seq fun K31 hK31=>?_));refine WP.block (WP.seq fun K32 hK32=>?_);refine wr (uf th27 th3 hob ?_);refine ul th3 hob ?_;refine ub (u_nil ?_);refine wc (fun hc34=>?_) (fun hc34=>?_)
     ·
      simp at hc34;refine WP.reg tabOk rfl ?_;refine u_step (o_moveV (v:=.row _) rfl ?_);refine uf th27 th22 hob ?_;refine ul th22 hob ?_;refine um ?_;have hr9:=may7k hmy hc34
      first | refine u_step (o_ia_map rfl rfl th22 rfl th9 rfl (by omega) ?_) | refine u_step (o_ia_vs rfl rfl th22 rfl th9 rfl (by omega) ?_)
      refine uL th9 ?_;refine u_step (o_rcall (s89 ns[i] (by have:=szN_get (xs:=ns) (j:=i) (by omega);omega)) rfl fun q35 o35 nk35 hqa35 hqb35 hb35 hk35=>?_);have hob_35:=(hk35 _ (by omega)).trans hob;have hrw_35:=(hk35 _ (by omega)).trans hrw;refine u_step (g_apr rfl rfl th52 rfl th5 rfl rfl (by decide) hrw_35 hb35 (by have hr0:=hr9;have:=accR_le hmy (by omega) (by omega) (by omega) i (by omega);have:=szN_get (xs:=ns) (j:=i) (by omega);have:=grp_l ns[i].length;simp only [List.length_append,bytesD_length];omega) (by have hr0:=hr9;have:=accR_le hmy (by omega) (by omega) (by omega) i (by omega);have:=szN_get (xs:=ns) (j:=i) (by omega);have:=grp_l ns[i].length;simp only [List.length_append,bytesD_length];omega) fun o36 hb36 hk36=>?_);have hob_36:=(hk36 _ (by omega) (by omega)).trans hob_35;have hb35_36:=(hk36 _ (by omega) (by omega)).trans hb35;refine u_step (o_assignV (v:=.row _) rfl ?_);refine u_nil (hK32 _ (WP.reg tabOk rfl ?_));refine u_step (o_moveV (v:=.row _) rfl ?_);refine uf th27 th25 hob_36 ?_;refine ul th25 hob_36 ?_;refine um ?_
      first | refine u_step (o_ia_map rfl rfl th25 rfl th27 rfl (by omega) ?_) | refine u_step (o_ia_vs rfl rfl th25 rfl th27 rfl (by omega) ?_)
      refine uL th27 ?_;refine u_step (o_rcall ((ih xs[i] (by exact items_lt' (by omega) hv) (by exact may_items hmy (by omega)) (by exact rngVs_get hrg.2 (by omega)) (by have:=szVs_get (xs:=xs) (j:=i) (by omega);omega))) rfl fun q37 o37 nk37 hqa37 hqb37 hb37 hk37=>?_);have hob_37:=(hk37 _ (by omega)).trans hob_36;have hb35_37:=(hk37 _ (by omega)).trans hb35_36;have hb36_37:=(hk37 _ (by omega)).trans hb36;refine u_step (g_apr rfl rfl th52 rfl th5 rfl rfl (by decide) hb36_37 hb37 (by first | (have:=accR_le hmy (by omega) (by omega) (by omega) i (by omega);have:=szVs_get (xs:=xs) (j:=i) (by omega);have:=codV_len (may_items hmy (j:=i) (by omega));have:=sizeV_le xs[i];simp only [List.length_append,bytesD_length];omega) | (have:=accR_le hmy (by omega) (by omega) (by omega) i (by omega);have:=szVs_get (xs:=xs) (j:=i) (by omega);have:=codV_len (may_items hmy (j:=i) (by omega));have:=sizeV_le xs[i];have hr0:=may7k hmy hc34;have:=szN_get (xs:=ns) (j:=i) (by omega);have:=grp_l ns[i].length;simp only [List.length_append,bytesD_length];omega)) (by first | (have:=accR_le hmy (by omega) (by omega) (by omega) i (by omega);have:=szVs_get (xs:=xs) (j:=i) (by omega);have:=codV_len (may_items hmy (j:=i) (by omega));have:=sizeV_le xs[i];simp only [List.length_append,bytesD_length];omega) | (have:=accR_le hmy (by omega) (by omega) (by omega) i (by omega);have:=szVs_get (xs:=xs) (j:=i) (by omega);have:=codV_len (may_items hmy (j:=i) (by omega));have:=sizeV_le xs[i];have hr0:=may7k hmy hc34;have:=szN_get (xs:=ns) (j:=i) (by omega);have:=grp_l ns[i].length;simp only [List.length_append,bytesD_length];omega)) fun o38 hb38 hk38=>?_);have hob_38:=(hk38 _ (by omega) (by omega)).trans hob_37;have hb35_38:=(hk38 _ (by omega) (by omega)).trans hb35_37;have hb37_38:=(hk38 _ (by omega) (by omega)).trans hb37;refine u_step (o_assignV (v:=.row _) rfl ?_);refine u_nil (hK31 _ (WP.reg tabOk rfl ?_));refine um (ub (ua (u_nil ?_)));have hk1:¬ kd=1:=fun h=>by have:=may1 hmy h;omega
      refine ⟨⟨i+1,nk37,o38,(nk37+1)⟩,⟨by omega,by omega,by omega,hob_38,by first | exact (hb38).trans (congrArg (fun z=>some (AO.row 5 1 z)) (rcodeA (by omega) hk1 hc34)) | exact (hb38).trans (congrArg (fun z=>some (AO.row 5 1 z)) (rcodeB (by omega) (by have:=may7k hmy hc34;omega) hk1 hc34)),(fun t ht=>(hk38 t (by omega) (by omega)).trans ((hk37 t (by omega)).trans ((hk36 t (by omega) (by omega)).trans ((hk35 t (by omega)).trans ((hfr t (by omega)))))))⟩,by simp only;omega,?_⟩;refine Le.al ?_;simp only [List.forall_mem_cons];exact ⟨rfl,rfl,cnt (by omega),by simp⟩
     ·
      simp at hc34;refine WP.skip (hK32 _ (WP.reg tabOk rfl ?_));refine u_step (o_moveV (v:=.row _) rfl ?_);refine uf th27 th25 hob ?_;refine ul th25 hob ?_;refine um ?_
      first | refine u_step (o_ia_map rfl rfl th25 rfl th27 rfl (by omega) ?_) | refine u_step (o_ia_vs rfl rfl th25 rfl th27 rfl (by omega) ?_)
      refine uL th27 ?_;refine u_step (o_rcall ((ih xs[i] (by exact items_lt' (by omega) hv) (by exact may_items hmy (by omega)) (by exact rngVs_get hrg.2 (by omega)) (by have:=szVs_get (xs:=xs) (j:=i) (by omega);omega))) rfl fun q39 o39 nk39 hqa39 hqb39 hb39 hk39=>?_);have hob_39:=(hk39 _ (by omega)).trans hob;have hrw_39:=(hk39 _ (by omega)).trans hrw;refine u_step (g_apr rfl rfl th52 rfl th5 rfl rfl (by decide) hrw_39 hb39 (by first | (have:=accR_le hmy (by omega) (by omega) (by omega) i (by omega);have:=szVs_get (xs:=xs) (j:=i) (by omega);have:=codV_len (may_items hmy (j:=i) (by omega));have:=sizeV_le xs[i];simp only [List.length_append,bytesD_length];omega) | (have:=accR_le hmy (by omega) (by omega) (by omega) i (by omega);have:=szVs_get (xs:=xs) (j:=i) (by omega);have:=codV_len (may_items hmy (j:=i) (by omega));have:=sizeV_le xs[i];have hr0:=may7k hmy hc34;have:=szN_get (xs:=ns) (j:=i) (by omega);have:=grp_l ns[i].length;simp only [List.length_append,bytesD_length];omega)) (by first | (have:=accR_le hmy (by omega) (by omega) (by omega) i (by omega);have:=szVs_get (xs:=xs) (j:=i) (by omega);have:=codV_len (may_items hmy (j:=i) (by omega));have:=sizeV_le xs[i];simp only [List.length_append,bytesD_length];omega) | (have:=accR_le hmy (by omega) (by omega) (by omega) i (by omega);have:=szVs_get (xs:=xs) (j:=i) (by omega);have:=codV_len (may_items hmy (j:=i) (by omega));have:=sizeV_le xs[i];have hr0:=may7k hmy hc34;have:=szN_get (xs:=ns) (j:=i) (by omega);have:=grp_l ns[i].length;simp only [List.length_append,bytesD_length];omega)) fun o40 hb40 hk40=>?_);have hob_40:=(hk40 _ (by omega) (by omega)).trans hob_39;have hb39_40:=(hk40 _ (by omega) (by omega)).trans hb39;refine u_step (o_assignV (v:=.row _) rfl ?_);refine u_nil (hK31 _ (WP.reg tabOk rfl ?_));refine um (ub (ua (u_nil ?_)));have hk1:¬ kd=1:=fun h=>by have:=may1 hmy h;omega
      refine ⟨⟨i+1,nk39,o40,(nk39+1)⟩,⟨by omega,by omega,by omega,hob_40,by first | exact (hb40).trans (congrArg (fun z=>some (AO.row 5 1 z)) (rcodeA (by omega) hk1 hc34)) | exact (hb40).trans (congrArg (fun z=>some (AO.row 5 1 z)) (rcodeB (by omega) (by have:=may7k hmy hc34;omega) hk1 hc34)),(fun t ht=>(hk40 t (by omega) (by omega)).trans ((hk39 t (by omega)).trans ((hfr t (by omega)))))⟩,by simp only;omega,?_⟩;refine Le.al ?_;simp only [List.forall_mem_cons];exact ⟨rfl,rfl,cnt (by omega),by simp⟩
    ·
     simp at hc30;refine WP.exit ?_;refine hK26 _ (wr ?_);refine u_step (o_moveV (v:=.row _) rfl ?_);refine u_step (o_assignV (v:=.row _) rfl ?_);refine u_nil (WP.ret ?_);refine rrow_okx rfl (by omega) (by omega) hrw (fun t ht=>(hfr t (by omega))) ?_;have hie:i=xs.length:=by omega
     rw [hie,accR_end (by omega) (by omega) (by omega)]
   ·
    exact ⟨by omega,hn1,hm1,hB1,hR1,hF1⟩
   ·
    refine Le.al ?_;simp only [List.forall_mem_cons];exact ⟨rfl,rfl,rfl,by simp⟩
theorem s90 (v:Val) (hmy:mayV v=true) (hrg:rngV v) (hsz:szV v≤1099511627776):RSpec Tryz.prog 90 [.d (encV v)] 5 1 (bytesD (codV v)):=s90A _ v (Nat.lt_succ_self _) hmy hrg hsz
theorem fn35:FnOk Tryz.prog 35 63 [2] (bodyOf Tryz.f35):=⟨Tryz.f35,Tryz.func35,by kernel_rfl,by decide,by kernel_rfl,by kernel_rfl⟩
theorem s35 (l:List Dlt) (hc:checkD l=0) (hok:∀ d∈l,okD d):RSpec Tryz.prog 35 [.d (.sl 8 (l.map encD))] 5 1 (bytesD (codDs l)):=by
 have hcl:=checkD_len hc;have hma:=checkD_all hc;refine RSpec.of fn35 (by simp) fun o nk=>?_;refine wr (ua (u_nil (wr (um (un th28 ?_)))));refine u_step (o_rcall (s88 (l.map encD).length) rfl fun q3 o3 nk3 hqa3 hqb3 hb3 hk3=>?_);refine u_step (o_assignV (v:=.row _) rfl ?_);refine u_nil (WP.seq fun K4 hK4=>?_);refine wr (ua (u_nil (WP.block ?_)));refine WP.loopL (ι:=Nat×Nat×(Nat→Option AO)×Nat) (fun ⟨i,p,o2,nk2⟩=>⟨al [(0,.d (.sl 8 (l.map encD))),(3,.row p),(4,.d (.int .i64 i))],o2,nk2⟩) (fun ⟨i,p,o2,nk2⟩=>i≤l.length∧nk≤p∧p < nk2∧o2 p=some (.row 5 1 (bytesD (accDs l i)))∧(∀ t,t < nk→o2 t=o t)) (fun ⟨i,p,o2,nk2⟩=>l.length - i) (fun ⟨i,p,o2,nk2⟩ hA=>?_) ⟨0,q3,o3,nk3⟩ ?_ ?_
 ·
  obtain ⟨hle,hnp,hpn,hrw,hfr⟩:=hA;have hal:=accDs_len hma i hle;refine WP.seq fun K6 hK6=>?_;refine wr (um (um (un th28 ?_)));refine ub (u_nil ?_);refine wc (fun hc8=>?_) (fun hc8=>?_)
  ·
   simp at hc8;refine WP.skip (hK6 _ (WP.seq fun K9 hK9=>?_));refine WP.block ?_;have hil:i < l.length:=by omega
   obtain ⟨d,hd⟩:∃ d,d=l[i]:=⟨_,rfl⟩;have hgd:(l.map encD)[((i:Nat):Int).toNat]?=some (encD d):=by rw [hd];simp [hil]
   have hmd:mayD d=true:=hd ▸ hma _ (List.getElem_mem hil);have hkd:okD d:=hd ▸ hok _ (List.getElem_mem hil);have hp8:=(mayD_parts hmd).2.1;refine wr (um (um ?_));refine u_step (o_ia_sl rfl rfl th28 rfl th83 rfl (Int.natCast_nonneg _) hgd ?_);refine uL th83 ?_;refine u_step (g_alloc th83 rfl fun o11 hb11 hk11=>?_);have hrw_11:=(hk11 _ (by omega)).trans hrw;refine u_step0 (g_sta rfl rfl th83 rfl hb11 (by first | (simp;done) | (simp [D.leaves,D.width,valCells];done) | decide) fun o12 hb12 hk12=>?_);have hrw_12:=(hk12 _ (by omega)).trans hrw_11;refine u_nil (WP.seq fun K13 hK13=>?_);refine WP.dr3 [.q 0 0,.q 0 0,.q 0 0,.q 0 0,.q 0 0,.w 0,.q 0 1,.q 0 1,.q 0 1,.w 1,.w 2,.q 3 3] [5,9,10] ((nk2+1)+1) (((nk2+1)+1)+1) ((((nk2+1)+1)+1)+1) tabOk (by kernel_rfl) rfl (by kernel_rfl) (by kernel_rfl) ?_;apply Exists.intro;apply Exists.intro;apply Exists.intro;refine e_step rfl (o_moveV (v:=.row _) rfl ⟨rfl,rfl,rfl⟩) ?_;refine e_step rfl (o_fa_loc rfl th83 rfl rfl th3 (by decide) hb12 ⟨rfl,rfl,rfl⟩) ?_;refine e_step rfl (o_ld_loc rfl th3 rfl hb12 rfl ⟨rfl,rfl,rfl⟩) ?_;refine e_step rfl (o_cv_int rfl th3 th5 rfl ⟨rfl,rfl,rfl⟩) ?_;refine e_step rfl (o_bs rfl th52 rfl th5 rfl rfl (by decide) rfl (by decide) (by decide) ⟨rfl,rfl,rfl⟩) ?_;refine e_w rfl rfl (w_ap rfl rfl th52 rfl th5 rfl rfl (by decide) rfl hrw_12 (by simp only [List.length_append,bytesD_length,List.length_cons,List.length_nil];omega) (by simp only [List.length_append,bytesD_length,List.length_cons,List.length_nil];omega) ⟨rfl,rfl,rfl⟩) ?_;refine e_step2 rfl rfl (o_fa_loc rfl th83 rfl rfl th22 (by decide) hb12 ⟨rfl,rfl,rfl⟩) (o_fa_loc rfl th83 rfl rfl th22 (by decide) (((upd_ne _ _ (by omega)).trans (upd_ne _ _ (by omega))).trans hb12) ⟨rfl,rfl,rfl⟩) ?_;refine e_step2 rfl rfl (o_ld_loc rfl th22 rfl hb12 rfl ⟨rfl,rfl,rfl⟩) (o_ld_loc rfl th22 rfl (((upd_ne _ _ (by omega)).trans (upd_ne _ _ (by omega))).trans hb12) rfl ⟨rfl,rfl,rfl⟩) ?_;refine e_step2 rfl rfl (o_len_sl rfl th22 rfl ⟨rfl,rfl,rfl⟩) (o_len_sl rfl th22 rfl ⟨rfl,rfl,rfl⟩) ?_;refine e_w rfl rfl (w_rcall (s88 (d.path.map D.str).length) rfl ⟨rfl,rfl,rfl⟩) ?_;refine e_w rfl rfl (w_apr rfl rfl th52 rfl th5 rfl rfl (by decide) ((upd_ne _ _ (by omega)).trans (upd_same _ _ _)) (upd_same _ _ _) (by have:=grp_l (d.path.map D.str).length;simp only [List.length_append,bytesD_length,List.length_cons,List.length_nil];omega) (by have:=grp_l (d.path.map D.str).length;simp only [List.length_append,bytesD_length,List.length_cons,List.length_nil];omega) ⟨rfl,rfl,rfl⟩) ?_;refine e_step rfl (o_assignV (v:=.row _) rfl ⟨rfl,rfl,rfl⟩) ?_;refine e_nil rfl fun o17 ho17=>?_;have hbb11_17:=(ho17 _).trans (((upd_ne _ _ (by omega)).trans (upd_ne _ _ (by omega))).trans ((upd_ne _ _ (by omega)).trans (((upd_ne _ _ (by omega)).trans (upd_ne _ _ (by omega))).trans hb12)));have hbq15_17:=(ho17 _).trans (((upd_ne _ _ (by omega)).trans (upd_ne _ _ (by omega))).trans (upd_same _ _ _));have hbr16_17:=(ho17 _).trans (upd_same _ _ _);have hk17:∀ t,t < nk→o17 t=o12 t:=fun t ht=>(ho17 t).trans (((upd_ne _ _ (by omega)).trans (upd_ne _ _ (by omega))).trans ((upd_ne _ _ (by omega)).trans ((upd_ne _ _ (by omega)).trans (upd_ne _ _ (by omega)))));refine hK13 _ (WP.seq fun K18 hK18=>?_);refine wr (ua (u_nil (WP.block ?_)));refine WP.loopL (ι:=Nat×Nat×(Nat→Option AO)×Nat) (fun ⟨j,p3,o3,nk3⟩=>⟨al [(0,.d (.sl 8 (l.map encD))),(3,.row p3),(4,.d (.int .i64 i)),(5,.loc nk2 0),(6,.d (.int .i64 j))],o3,nk3⟩) (fun ⟨j,p3,o3,nk3⟩=>j≤d.path.length∧nk2 < p3∧p3 < nk3∧o3 nk2=some (.box (([.int .i64 d.kind,.sl 1 (d.path.map .str),.int .i64 d.value.kind,.int .i64 d.value.int,.str d.value.text,.sl 5 (encVs d.value.items),.sl 1 (d.value.names.map .str),.int .i64 d.n]:List D).map .d))∧o3 p3=some (.row 5 1 (bytesD (accDs l i++codD1 d j)))∧(∀ t,t < nk→o3 t=o t)) (fun ⟨j,p3,o3,nk3⟩=>d.path.length - j) (fun ⟨j,p3,o3,nk3⟩ hA=>?_) ⟨0,(((nk2+1)+1)+1),o17,((((nk2+1)+1)+1)+1)⟩ ?_ ?_
   ·
    obtain ⟨hlj,hnp3,hpn3,hob,hrw3,hfr3⟩:=hA;have hdl:=codD1_len (j:=j) hmd;refine WP.seq fun K20 hK20=>?_;refine wr (um (uf th83 th22 hob ?_));refine ul th22 hob ?_;refine un th22 ?_;refine ub (u_nil ?_);refine wc (fun hc22=>?_) (fun hc22=>?_)
    ·
     simp at hc22;refine WP.skip (hK20 _ (WP.seq fun K23 hK23=>?_));refine WP.block (WP.reg tabOk rfl ?_);refine u_step (o_moveV (v:=.row _) rfl ?_);refine uf th83 th22 hob ?_;refine ul th22 hob ?_;refine um ?_
     first | refine u_step (o_ia_map rfl rfl th22 rfl th9 rfl (by omega) ?_) | refine u_step (o_ia_vs rfl rfl th22 rfl th9 rfl (by omega) ?_)
     refine uL th9 ?_;refine u_step (o_rcall (s89 d.path[j] (by have:=List.all_eq_true.1 (mayD_parts hmd).1 _ (List.getElem_mem (by omega:j < d.path.length));simp only [nameV,decide_eq_true_eq] at this;omega)) rfl fun q24 o24 nk24 hqa24 hqb24 hb24 hk24=>?_);have hob_24:=(hk24 _ (by omega)).trans hob;have hrw3_24:=(hk24 _ (by omega)).trans hrw3;refine u_step (g_apr rfl rfl th52 rfl th5 rfl rfl (by decide) hrw3_24 hb24 (by have:=List.all_eq_true.1 (mayD_parts hmd).1 _ (List.getElem_mem (by omega:j < d.path.length));simp only [nameV,decide_eq_true_eq] at this;have:=grp_l d.path[j].length;simp only [List.length_append,bytesD_length];omega) (by have:=List.all_eq_true.1 (mayD_parts hmd).1 _ (List.getElem_mem (by omega:j < d.path.length));simp only [nameV,decide_eq_true_eq] at this;have:=grp_l d.path[j].length;simp only [List.length_append,bytesD_length];omega) fun o25 hb25 hk25=>?_);have hob_25:=(hk25 _ (by omega) (by omega)).trans hob_24;have hb24_25:=(hk25 _ (by omega) (by omega)).trans hb24;refine u_step (o_assignV (v:=.row _) rfl ?_);refine u_nil (hK23 _ (WP.reg tabOk rfl ?_));refine um (ub (ua (u_nil ?_)));refine ⟨⟨j+1,nk24,o25,(nk24+1)⟩,⟨by omega,by omega,by omega,hob_25,(hb25).trans (congrArg (fun z=>some (AO.row 5 1 z)) ((dcodeP (ys:=[]) (by omega)))),(fun t ht=>(hk25 t (by omega) (by omega)).trans ((hk24 t (by omega)).trans ((hfr3 t (by omega)))))⟩,by simp only;omega,?_⟩;refine Le.al ?_;simp only [List.forall_mem_cons];exact ⟨rfl,rfl,rfl,rfl,cnt (by omega),by simp⟩
    ·
     simp at hc22;refine WP.exit ?_;refine hK18 _ (wr (uf th83 th3 hob ?_));refine ul th3 hob ?_;refine u_nil (WP.block (wr (ub (ua (u_nil ?_)))));refine wc (fun hc28=>?_) (fun hc28=>?_)
     ·
      simp at hc28;refine WP.reg tabOk rfl ?_;refine u_step (o_moveV (v:=.row _) rfl ?_);refine uf th83 th27 hob ?_;refine ug th27 hob ?_;refine u_step (o_rcall (rv1 (v:=d.value) (s90 d.value (check_may ((mayD_parts hmd).2.2.1 hc28)) hkd.1 hkd.2)) rfl fun q29 o29 nk29 hqa29 hqb29 hb29 hk29=>?_);have hob_29:=(hk29 _ (by omega)).trans hob;have hrw3_29:=(hk29 _ (by omega)).trans hrw3;refine u_step (g_apr rfl rfl th52 rfl th5 rfl rfl (by decide) hrw3_29 hb29 (by have hz:=(mayD_parts hmd).2.2.1 hc28;have:=codV_len (check_may hz);have:=check_size hz;simp only [List.length_append,bytesD_length];omega) (by have hz:=(mayD_parts hmd).2.2.1 hc28;have:=codV_len (check_may hz);have:=check_size hz;simp only [List.length_append,bytesD_length];omega) fun o30 hb30 hk30=>?_);have hob_30:=(hk30 _ (by omega) (by omega)).trans hob_29;have hb29_30:=(hk30 _ (by omega) (by omega)).trans hb29;refine u_step (o_assignV (v:=.row _) rfl ?_);refine u_nil (hK9 _ (WP.reg tabOk rfl ?_));refine um (ub (ua (u_nil ?_)));refine ⟨⟨i+1,nk29,o30,(nk29+1)⟩,⟨by omega,by omega,by omega,(hb30).trans (congrArg (fun z=>some (AO.row 5 1 z)) ((dcodeE (ys:=[]) hil hd (by omega) (by simp only [codDv];rw [if_pos hc28])))),(fun t ht=>(hk30 t (by omega) (by omega)).trans ((hk29 t (by omega)).trans ((hfr3 t (by omega)))))⟩,by simp only;omega,?_⟩;refine Le.al ?_;simp only [List.forall_mem_cons];exact ⟨rfl,rfl,cnt (by omega),by simp⟩
     ·
      simp at hc28;refine wr (ub (ua (u_nil ?_)));refine wc (fun hc32=>?_) (fun hc32=>?_)
      ·
       simp at hc32;refine WP.reg tabOk rfl ?_;refine u_step (o_moveV (v:=.row _) rfl ?_);refine uf th83 th3 hob ?_;refine ul th3 hob ?_;refine u_step (o_rcall (s88 d.n) rfl fun q33 o33 nk33 hqa33 hqb33 hb33 hk33=>?_);have hob_33:=(hk33 _ (by omega)).trans hob;have hrw3_33:=(hk33 _ (by omega)).trans hrw3;refine u_step (g_apr rfl rfl th52 rfl th5 rfl rfl (by decide) hrw3_33 hb33 (by have:=grp_l d.n;simp only [List.length_append,bytesD_length];omega) (by have:=grp_l d.n;simp only [List.length_append,bytesD_length];omega) fun o34 hb34 hk34=>?_);have hob_34:=(hk34 _ (by omega) (by omega)).trans hob_33;have hb33_34:=(hk34 _ (by omega) (by omega)).trans hb33;refine u_step (o_assignV (v:=.row _) rfl ?_);refine u_nil (hK9 _ (WP.reg tabOk rfl ?_));refine um (ub (ua (u_nil ?_)));refine ⟨⟨i+1,nk33,o34,(nk33+1)⟩,⟨by omega,by omega,by omega,(hb34).trans (congrArg (fun z=>some (AO.row 5 1 z)) ((dcodeE (ys:=[]) hil hd (by omega) (by simp only [codDv];rw [if_neg (by omega),if_pos hc32])))),(fun t ht=>(hk34 t (by omega) (by omega)).trans ((hk33 t (by omega)).trans ((hfr3 t (by omega)))))⟩,by simp only;omega,?_⟩;refine Le.al ?_;simp only [List.forall_mem_cons];exact ⟨rfl,rfl,cnt (by omega),by simp⟩
      ·
       simp at hc32;refine WP.skip (hK9 _ (WP.reg tabOk rfl ?_));refine um (ub (ua (u_nil ?_)));refine ⟨⟨i+1,p3,o3,nk3⟩,⟨by omega,by omega,by omega,(hrw3).trans (congrArg (fun z=>some (AO.row 5 1 z)) ((dcodeN (ys:=[]) hil hd (by omega) (by omega) (by omega)))),(fun t ht=>(hfr3 t (by omega)))⟩,by simp only;omega,?_⟩;refine Le.al ?_;simp only [List.forall_mem_cons];exact ⟨rfl,rfl,cnt (by omega),by simp⟩
   ·
    refine ⟨by omega,by omega,by omega,hbb11_17,(hbr16_17).trans (congrArg (fun z=>some (AO.row 5 1 z)) ((dcode1 (ys:=[]) (by simp)))),(fun t ht=>(hk17 t (by omega)).trans ((hk12 t (by omega)).trans ((hk11 t (by omega)).trans ((hfr t (by omega))))))⟩
   ·
    refine Le.al ?_;simp only [List.forall_mem_cons];exact ⟨rfl,rfl,rfl,rfl,rfl,by simp⟩
  ·
   simp at hc8;refine WP.exit ?_;refine hK4 _ (wr ?_);refine u_step (o_moveV (v:=.row _) rfl ?_);refine u_step (o_assignV (v:=.row _) rfl ?_);refine u_nil (WP.ret ?_);refine rrow_okx rfl (by omega) (by omega) hrw (fun t ht=>(hfr t (by omega))) ?_;rw [accDs_end (by omega)]
 ·
  refine ⟨by omega,by omega,by omega,(hb3).trans (congrArg (fun z=>some (AO.row 5 1 z)) ((dcode0 (ys:=[]) (by simp)))),(fun t ht=>(hk3 t (by omega)))⟩
 ·
  refine Le.al ?_;simp only [List.forall_mem_cons];exact ⟨rfl,rfl,rfl,by simp⟩
theorem hasTup (k:Int):PSpec Tryz.prog 64 [.d (.int .i64 k)] (.tup [.d (.bool (hsB k 1)),.d (.bool (hsB k 2)),.d (.bool (hsB k 4)),.d (.bool (hsB k 8)),.d (.bool (hsB k 16))]):=by
 have h:=s64 k;rw [hasL_eq] at h;exact h
theorem codE0_eqR (e:Etr):bytesD (grp (u64 e.term))++[D.int .u8 (IntKind.u8.wrap e.kind)]++bytesD (grp (u64 e.session))++bytesD (grp (u64 e.number))=bytesD (codE0 e):=codE0_eq e
theorem fn52:FnOk Tryz.prog 52 66 [2] (bodyOf Tryz.f52):=⟨Tryz.f52,Tryz.func52,by kernel_rfl,by decide,by kernel_rfl,by kernel_rfl⟩
theorem s52 (e:Etr) (ok:OkE e) (hm:mayE e=true):RSpec Tryz.prog 52 [.d (encE e)] 5 1 (bytesD (codE e)):=by
 have hE:=mayE_ok hm;have l1:=codE1_len hE;have l2:=codE2_len hE;have l3:=codE3_len hE;have l4:=codE4_len hE;have l0:=codE0_len e;refine RSpec.of fn52 (by simp) fun o nk=>?_;refine wr ?_;refine u_step (g_box rfl fun o2 hb2 hk2=>?_);refine ua (u_nil (WP.seq fun K3 hK3=>?_));refine WP.dr2 [.q 0 0,.q 0 0,.w 0,.q 0 1,.q 0 1,.q 0 1,.q 0 1,.w 1,.q 2 2] [2,7] ((nk+1)+1) (((nk+1)+1)+1) tabOk (by kernel_rfl) rfl (by kernel_rfl) (by kernel_rfl) ?_;apply Exists.intro;apply Exists.intro;refine e_step rfl (o_fa_loc rfl th30 rfl rfl th3 (by decide) hb2 ⟨rfl,rfl,rfl⟩) ?_;refine e_step rfl (o_ld_loc rfl th3 rfl hb2 rfl ⟨rfl,rfl,rfl⟩) ?_;refine e_w rfl rfl (w_rcall (s88 e.term) rfl ⟨rfl,rfl,rfl⟩) ?_;refine e_step2 rfl rfl (o_fa_loc rfl th30 rfl rfl th3 (by decide) hb2 ⟨rfl,rfl,rfl⟩) (o_fa_loc rfl th30 rfl rfl th3 (by decide) ((upd_ne _ _ (by omega)).trans hb2) ⟨rfl,rfl,rfl⟩) ?_;refine e_step2 rfl rfl (o_ld_loc rfl th3 rfl hb2 rfl ⟨rfl,rfl,rfl⟩) (o_ld_loc rfl th3 rfl ((upd_ne _ _ (by omega)).trans hb2) rfl ⟨rfl,rfl,rfl⟩) ?_;refine e_step2 rfl rfl (o_cv_int rfl th3 th5 rfl ⟨rfl,rfl,rfl⟩) (o_cv_int rfl th3 th5 rfl ⟨rfl,rfl,rfl⟩) ?_;refine e_step2 rfl rfl (o_bs rfl th52 rfl th5 rfl rfl (by decide) rfl (by decide) (by decide) ⟨rfl,rfl,rfl⟩) (o_bs rfl th52 rfl th5 rfl rfl (by decide) rfl (by decide) (by decide) ⟨rfl,rfl,rfl⟩) ?_;refine e_w rfl rfl (w_ap rfl rfl th52 rfl th5 rfl rfl (by decide) rfl (upd_same _ _ _) (by have:=grp_l e.term;have:=grp_l e.session;have:=grp_l e.number;simp [bytesD_length];omega) (by have:=grp_l e.term;have:=grp_l e.session;have:=grp_l e.number;simp [bytesD_length];omega) ⟨rfl,rfl,rfl⟩) ?_;refine e_step rfl (o_assignV (v:=.row _) rfl ⟨rfl,rfl,rfl⟩) ?_;refine e_nil rfl fun o6 ho6=>?_;have hbb2_6:=(ho6 _).trans (((upd_ne _ _ (by omega)).trans (upd_ne _ _ (by omega))).trans ((upd_ne _ _ (by omega)).trans hb2));have hbr5_6:=(ho6 _).trans (upd_same _ _ _);have hk6:∀ t,t < nk→o6 t=o2 t:=fun t ht=>(ho6 t).trans (((upd_ne _ _ (by omega)).trans (upd_ne _ _ (by omega))).trans (upd_ne _ _ (by omega)));refine hK3 _ (WP.seq fun K7 hK7=>?_);refine WP.dr4 [.q 0 1,.q 0 0,.q 0 0,.w 0,.w 1,.q 0 2,.q 0 2,.w 2,.w 3,.q 4 4] [3,4,7,8] ((((nk+1)+1)+1)+1) (((((nk+1)+1)+1)+1)+1) ((((((nk+1)+1)+1)+1)+1)+1) (((((((nk+1)+1)+1)+1)+1)+1)+1) tabOk (by kernel_rfl) rfl (by kernel_rfl) (by kernel_rfl) ?_;apply Exists.intro;apply Exists.intro;apply Exists.intro;apply Exists.intro;refine e_step2 rfl rfl (o_moveV (v:=.row _) rfl ⟨rfl,rfl,rfl⟩) ?_ ?_;rotate_left;refine e_step rfl (o_fa_loc rfl th30 rfl rfl th3 (by decide) hbb2_6 ⟨rfl,rfl,rfl⟩) ?_;refine e_step rfl (o_ld_loc rfl th3 rfl hbb2_6 rfl ⟨rfl,rfl,rfl⟩) ?_;refine e_w rfl rfl (w_rcall (s88 e.session) rfl ⟨rfl,rfl,rfl⟩) ?_;refine e_w rfl rfl (w_apr rfl rfl th52 rfl th5 rfl rfl (by decide) ((upd_ne _ _ (by omega)).trans hbr5_6) (upd_same _ _ _) (by have:=grp_l e.term;have:=grp_l e.session;have:=grp_l e.number;simp [bytesD_length];omega) (by have:=grp_l e.term;have:=grp_l e.session;have:=grp_l e.number;simp [bytesD_length];omega) ⟨rfl,rfl,rfl⟩) ?_;refine e_step3 rfl rfl rfl (o_fa_loc rfl th30 rfl rfl th3 (by decide) hbb2_6 ⟨rfl,rfl,rfl⟩) (o_fa_loc rfl th30 rfl rfl th3 (by decide) ((upd_ne _ _ (by omega)).trans hbb2_6) ⟨rfl,rfl,rfl⟩) (o_fa_loc rfl th30 rfl rfl th3 (by decide) (((upd_ne _ _ (by omega)).trans (upd_ne _ _ (by omega))).trans ((upd_ne _ _ (by omega)).trans hbb2_6)) ⟨rfl,rfl,rfl⟩) ?_;refine e_step3 rfl rfl rfl (o_ld_loc rfl th3 rfl hbb2_6 rfl ⟨rfl,rfl,rfl⟩) (o_ld_loc rfl th3 rfl ((upd_ne _ _ (by omega)).trans hbb2_6) rfl ⟨rfl,rfl,rfl⟩) (o_ld_loc rfl th3 rfl (((upd_ne _ _ (by omega)).trans (upd_ne _ _ (by omega))).trans ((upd_ne _ _ (by omega)).trans hbb2_6)) rfl ⟨rfl,rfl,rfl⟩) ?_;refine e_w rfl rfl (w_rcall (s88 e.number) rfl ⟨rfl,rfl,rfl⟩) ?_;refine e_w rfl rfl (w_apr rfl rfl th52 rfl th5 rfl rfl (by decide) ((upd_ne _ _ (by omega)).trans (upd_same _ _ _)) (upd_same _ _ _) (by have:=grp_l e.term;have:=grp_l e.session;have:=grp_l e.number;simp [bytesD_length];omega) (by have:=grp_l e.term;have:=grp_l e.session;have:=grp_l e.number;simp [bytesD_length];omega) ⟨rfl,rfl,rfl⟩) ?_;refine e_step rfl (o_assignV (v:=.row _) rfl ⟨rfl,rfl,rfl⟩) ?_;refine e_nil rfl fun o12 ho12=>?_;have hbb2_12:=(ho12 _).trans (((upd_ne _ _ (by omega)).trans (upd_ne _ _ (by omega))).trans ((upd_ne _ _ (by omega)).trans (((upd_ne _ _ (by omega)).trans (upd_ne _ _ (by omega))).trans ((upd_ne _ _ (by omega)).trans hbb2_6))));have hbq8_12:=(ho12 _).trans (((upd_ne _ _ (by omega)).trans (upd_ne _ _ (by omega))).trans ((upd_ne _ _ (by omega)).trans (((upd_ne _ _ (by omega)).trans (upd_ne _ _ (by omega))).trans (upd_same _ _ _))));have hbq10_12:=(ho12 _).trans (((upd_ne _ _ (by omega)).trans (upd_ne _ _ (by omega))).trans (upd_same _ _ _));have hbr11_12:=(ho12 _).trans (upd_same _ _ _);have hk12:∀ t,t < nk→o12 t=o6 t:=fun t ht=>(ho12 t).trans (((upd_ne _ _ (by omega)).trans (upd_ne _ _ (by omega))).trans ((upd_ne _ _ (by omega)).trans (((upd_ne _ _ (by omega)).trans (upd_ne _ _ (by omega))).trans (upd_ne _ _ (by omega)))))
 ·
  refine hK7 _ (wr (uf th30 th3 hbb2_12 ?_));refine ul th3 hbb2_12 ?_;refine u_step (o_pcall (hasTup e.kind) rfl ?_);refine u_step (o_moveV (v:=.tup _) rfl ?_);refine ue (ue ?_);refine ue (ue (ue (ua (ua (ua (ua (ua (u_nil ?_))))))));refine WP.seqI (ι:=Nat×(Nat→Option AO)×Nat) (fun ⟨p1,oA,m1⟩=>⟨al [(1,.loc nk 0),(3,.row p1),(5,.d (.bool (hsB e.kind 2))),(6,.d (.bool (hsB e.kind 4))),(7,.d (.bool (hsB e.kind 8))),(8,.d (.bool (hsB e.kind 16)))],oA,m1⟩) (fun ⟨p1,oA,m1⟩=>nk < p1∧p1 < m1∧oA nk=some (.box (([.int .i64 e.term,.int .i64 e.kind,.str e.coll,.str e.to,.int .i64 (e.id).kind,.int .i64 (e.id).int,.str (e.id).text,.sl 5 (encVs (e.id).items),.sl 1 ((e.id).names.map .str),.int .i64 (e.doc).kind,.int .i64 (e.doc).int,.str (e.doc).text,.sl 5 (encVs (e.doc).items),.sl 1 ((e.doc).names.map .str),.sl 8 (e.deltas.map encD),.int .i64 e.session,.int .i64 e.number]:List D).map .d))∧oA p1=some (.row 5 1 (bytesD (codE1 e)))∧∀ t,t < nk→oA t=o t) ?_ (fun ⟨p1,oA,m1⟩ hA=>?_)
  ·
   have hR0:=(hbr11_12).trans (congrArg (fun z=>some (AO.row 5 1 z)) (codE0_eqR e));have hB0:=hbb2_12;refine wr ?_;refine um ?_;refine u_nil ?_;refine wc (fun hc15=>?_) (fun hc15=>?_) <;> try simp only [Q0,Q1,Q2,Q3,Q4,Q5,Q6,Q7,Q8,ge_iff_le,gt_iff_lt] at hc15
   ·
    have hb1:hsB e.kind 1=true:=by simpa using hc15
    replace hc15:=hb1;refine WP.reg tabOk rfl ?_;refine u_step (o_moveV (v:=.row _) rfl ?_);refine uf th30 th9 hB0 ?_;refine ul th9 hB0 ?_;refine u_step (o_rcall (s89 e.coll (by have:=hE.c.1 hb1;omega)) rfl fun q16 o16 nk16 hqa16 hqb16 hb16 hk16=>?_);have hB0_16:=(hk16 _ (by omega)).trans hB0;have hR0_16:=(hk16 _ (by omega)).trans hR0;refine u_step (g_apr rfl rfl th52 rfl th5 rfl rfl (by decide) hR0_16 hb16 (by have:=hE.c.1 hb1;have:=grp_l e.coll.length;simp only [bytesD_length,List.length_append];omega) (by have:=hE.c.1 hb1;have:=grp_l e.coll.length;simp only [bytesD_length,List.length_append];omega) fun o17 hb17 hk17=>?_);have hB0_17:=(hk17 _ (by omega) (by omega)).trans hB0_16;have hb16_17:=(hk17 _ (by omega) (by omega)).trans hb16;refine u_step (o_assignV (v:=.row _) rfl ?_);refine u_nil ?_
    first | refine ⟨⟨_,o17,(nk16+1)⟩,⟨by omega,by omega,hB0_17,(hb17).trans (congrArg (fun z=>some (AO.row 5 1 z)) (optC_yes hc15)),(fun t ht=>(hk17 t (by omega) (by omega)).trans ((hk16 t (by omega)).trans ((hk12 t (by omega)).trans ((hk6 t (by omega)).trans ((hk2 t (by omega)))))))⟩,Le.al ?_⟩ | refine ⟨⟨_,o17,(nk16+1)⟩,⟨by omega,by omega,hB0_17,(hb17).trans (congrArg (fun z=>some (AO.row 5 1 z)) (optC_no hc15)),(fun t ht=>(hk17 t (by omega) (by omega)).trans ((hk16 t (by omega)).trans ((hk12 t (by omega)).trans ((hk6 t (by omega)).trans ((hk2 t (by omega)))))))⟩,Le.al ?_⟩
    simp only [List.forall_mem_cons];exact ⟨rfl,rfl,rfl,rfl,rfl,rfl,by simp⟩
   ·
    have hb1:¬ hsB e.kind 1=true:=by simpa using hc15
    replace hc15:=hb1;refine WP.skip ?_
    first | refine ⟨⟨_,o12,(((((((nk+1)+1)+1)+1)+1)+1)+1)⟩,⟨by omega,by omega,hB0,(hR0).trans (congrArg (fun z=>some (AO.row 5 1 z)) (optC_yes hc15)),(fun t ht=>(hk12 t (by omega)).trans ((hk6 t (by omega)).trans ((hk2 t (by omega)))))⟩,Le.al ?_⟩ | refine ⟨⟨_,o12,(((((((nk+1)+1)+1)+1)+1)+1)+1)⟩,⟨by omega,by omega,hB0,(hR0).trans (congrArg (fun z=>some (AO.row 5 1 z)) (optC_no hc15)),(fun t ht=>(hk12 t (by omega)).trans ((hk6 t (by omega)).trans ((hk2 t (by omega)))))⟩,Le.al ?_⟩
    simp only [List.forall_mem_cons];exact ⟨rfl,rfl,rfl,rfl,rfl,rfl,by simp⟩
  ·
   obtain ⟨hn1,hm1,hB1,hR1,hF1⟩:=hA;refine WP.seqI (ι:=Nat×(Nat→Option AO)×Nat) (fun ⟨p2,oB,m2⟩=>⟨al [(1,.loc nk 0),(3,.row p2),(5,.d (.bool (hsB e.kind 2))),(6,.d (.bool (hsB e.kind 4))),(7,.d (.bool (hsB e.kind 8))),(8,.d (.bool (hsB e.kind 16)))],oB,m2⟩) (fun ⟨p2,oB,m2⟩=>nk < p2∧p2 < m2∧oB nk=some (.box (([.int .i64 e.term,.int .i64 e.kind,.str e.coll,.str e.to,.int .i64 (e.id).kind,.int .i64 (e.id).int,.str (e.id).text,.sl 5 (encVs (e.id).items),.sl 1 ((e.id).names.map .str),.int .i64 (e.doc).kind,.int .i64 (e.doc).int,.str (e.doc).text,.sl 5 (encVs (e.doc).items),.sl 1 ((e.doc).names.map .str),.sl 8 (e.deltas.map encD),.int .i64 e.session,.int .i64 e.number]:List D).map .d))∧oB p2=some (.row 5 1 (bytesD (codE2 e)))∧∀ t,t < nk→oB t=o t) ?_ (fun ⟨p2,oB,m2⟩ hA=>?_)
   ·
    refine wr ?_;refine um ?_;refine u_nil ?_;refine wc (fun hc19=>?_) (fun hc19=>?_) <;> try simp only [Q0,Q1,Q2,Q3,Q4,Q5,Q6,Q7,Q8,ge_iff_le,gt_iff_lt] at hc19
    ·
     have hb2:hsB e.kind 2=true:=by simpa using hc19
     replace hc19:=hb2;refine WP.reg tabOk rfl ?_;refine u_step (o_moveV (v:=.row _) rfl ?_);refine uf th30 th9 hB1 ?_;refine ul th9 hB1 ?_;refine u_step (o_rcall (s89 e.to (by have:=hE.o.1 hb2;omega)) rfl fun q20 o20 nk20 hqa20 hqb20 hb20 hk20=>?_);have hB1_20:=(hk20 _ (by omega)).trans hB1;have hR1_20:=(hk20 _ (by omega)).trans hR1;refine u_step (g_apr rfl rfl th52 rfl th5 rfl rfl (by decide) hR1_20 hb20 (by have:=hE.o.1 hb2;have:=grp_l e.to.length;simp only [bytesD_length,List.length_append];omega) (by have:=hE.o.1 hb2;have:=grp_l e.to.length;simp only [bytesD_length,List.length_append];omega) fun o21 hb21 hk21=>?_);have hB1_21:=(hk21 _ (by omega) (by omega)).trans hB1_20;have hb20_21:=(hk21 _ (by omega) (by omega)).trans hb20;refine u_step (o_assignV (v:=.row _) rfl ?_);refine u_nil ?_
     first | refine ⟨⟨_,o21,(nk20+1)⟩,⟨by omega,by omega,hB1_21,(hb21).trans (congrArg (fun z=>some (AO.row 5 1 z)) (optC_yes hc19)),(fun t ht=>(hk21 t (by omega) (by omega)).trans ((hk20 t (by omega)).trans ((hF1 t (by omega)))))⟩,Le.al ?_⟩ | refine ⟨⟨_,o21,(nk20+1)⟩,⟨by omega,by omega,hB1_21,(hb21).trans (congrArg (fun z=>some (AO.row 5 1 z)) (optC_no hc19)),(fun t ht=>(hk21 t (by omega) (by omega)).trans ((hk20 t (by omega)).trans ((hF1 t (by omega)))))⟩,Le.al ?_⟩
     simp only [List.forall_mem_cons];exact ⟨rfl,rfl,rfl,rfl,rfl,rfl,by simp⟩
    ·
     have hb2:¬ hsB e.kind 2=true:=by simpa using hc19
     replace hc19:=hb2;refine WP.skip ?_
     first | refine ⟨⟨_,oA,m1⟩,⟨by omega,by omega,hB1,(hR1).trans (congrArg (fun z=>some (AO.row 5 1 z)) (optC_yes hc19)),(fun t ht=>(hF1 t (by omega)))⟩,Le.al ?_⟩ | refine ⟨⟨_,oA,m1⟩,⟨by omega,by omega,hB1,(hR1).trans (congrArg (fun z=>some (AO.row 5 1 z)) (optC_no hc19)),(fun t ht=>(hF1 t (by omega)))⟩,Le.al ?_⟩
     simp only [List.forall_mem_cons];exact ⟨rfl,rfl,rfl,rfl,rfl,rfl,by simp⟩
   ·
    obtain ⟨hn2,hm2,hB2,hR2,hF2⟩:=hA;refine WP.seqI (ι:=Nat×(Nat→Option AO)×Nat) (fun ⟨p3,oC,m3⟩=>⟨al [(1,.loc nk 0),(3,.row p3),(5,.d (.bool (hsB e.kind 2))),(6,.d (.bool (hsB e.kind 4))),(7,.d (.bool (hsB e.kind 8))),(8,.d (.bool (hsB e.kind 16)))],oC,m3⟩) (fun ⟨p3,oC,m3⟩=>nk < p3∧p3 < m3∧oC nk=some (.box (([.int .i64 e.term,.int .i64 e.kind,.str e.coll,.str e.to,.int .i64 (e.id).kind,.int .i64 (e.id).int,.str (e.id).text,.sl 5 (encVs (e.id).items),.sl 1 ((e.id).names.map .str),.int .i64 (e.doc).kind,.int .i64 (e.doc).int,.str (e.doc).text,.sl 5 (encVs (e.doc).items),.sl 1 ((e.doc).names.map .str),.sl 8 (e.deltas.map encD),.int .i64 e.session,.int .i64 e.number]:List D).map .d))∧oC p3=some (.row 5 1 (bytesD (codE3 e)))∧∀ t,t < nk→oC t=o t) ?_ (fun ⟨p3,oC,m3⟩ hA=>?_)
    ·
     refine wr ?_;refine um ?_;refine u_nil ?_;refine wc (fun hc23=>?_) (fun hc23=>?_) <;> try simp only [Q0,Q1,Q2,Q3,Q4,Q5,Q6,Q7,Q8,ge_iff_le,gt_iff_lt] at hc23
     ·
      have hb4:hsB e.kind 4=true:=by simpa using hc23
      replace hc23:=hb4;refine WP.reg tabOk rfl ?_;refine u_step (o_moveV (v:=.row _) rfl ?_);refine uf th30 th27 hB2 ?_;refine ug th27 hB2 ?_;refine u_step (o_rcall (rv1 (v:=e.id) (s90 e.id (check_may (hE.i.1 hb4)) ok.ri ok.si)) rfl fun q24 o24 nk24 hqa24 hqb24 hb24 hk24=>?_);have hB2_24:=(hk24 _ (by omega)).trans hB2;have hR2_24:=(hk24 _ (by omega)).trans hR2;refine u_step (g_apr rfl rfl th52 rfl th5 rfl rfl (by decide) hR2_24 hb24 (by have:=codV_len (check_may (hE.i.1 hb4));have:=check_size (hE.i.1 hb4);simp only [bytesD_length];omega) (by have:=codV_len (check_may (hE.i.1 hb4));have:=check_size (hE.i.1 hb4);simp only [bytesD_length];omega) fun o25 hb25 hk25=>?_);have hB2_25:=(hk25 _ (by omega) (by omega)).trans hB2_24;have hb24_25:=(hk25 _ (by omega) (by omega)).trans hb24;refine u_step (o_assignV (v:=.row _) rfl ?_);refine u_nil ?_
      first | refine ⟨⟨_,o25,(nk24+1)⟩,⟨by omega,by omega,hB2_25,(hb25).trans (congrArg (fun z=>some (AO.row 5 1 z)) (optC_yes hc23)),(fun t ht=>(hk25 t (by omega) (by omega)).trans ((hk24 t (by omega)).trans ((hF2 t (by omega)))))⟩,Le.al ?_⟩ | refine ⟨⟨_,o25,(nk24+1)⟩,⟨by omega,by omega,hB2_25,(hb25).trans (congrArg (fun z=>some (AO.row 5 1 z)) (optC_no hc23)),(fun t ht=>(hk25 t (by omega) (by omega)).trans ((hk24 t (by omega)).trans ((hF2 t (by omega)))))⟩,Le.al ?_⟩
      simp only [List.forall_mem_cons];exact ⟨rfl,rfl,rfl,rfl,rfl,rfl,by simp⟩
     ·
      have hb4:¬ hsB e.kind 4=true:=by simpa using hc23
      replace hc23:=hb4;refine WP.skip ?_
      first | refine ⟨⟨_,oB,m2⟩,⟨by omega,by omega,hB2,(hR2).trans (congrArg (fun z=>some (AO.row 5 1 z)) (optC_yes hc23)),(fun t ht=>(hF2 t (by omega)))⟩,Le.al ?_⟩ | refine ⟨⟨_,oB,m2⟩,⟨by omega,by omega,hB2,(hR2).trans (congrArg (fun z=>some (AO.row 5 1 z)) (optC_no hc23)),(fun t ht=>(hF2 t (by omega)))⟩,Le.al ?_⟩
      simp only [List.forall_mem_cons];exact ⟨rfl,rfl,rfl,rfl,rfl,rfl,by simp⟩
    ·
     obtain ⟨hn3,hm3,hB3,hR3,hF3⟩:=hA;refine WP.seqI (ι:=Nat×(Nat→Option AO)×Nat) (fun ⟨p4,oD,m4⟩=>⟨al [(1,.loc nk 0),(3,.row p4),(5,.d (.bool (hsB e.kind 2))),(6,.d (.bool (hsB e.kind 4))),(7,.d (.bool (hsB e.kind 8))),(8,.d (.bool (hsB e.kind 16)))],oD,m4⟩) (fun ⟨p4,oD,m4⟩=>nk < p4∧p4 < m4∧oD nk=some (.box (([.int .i64 e.term,.int .i64 e.kind,.str e.coll,.str e.to,.int .i64 (e.id).kind,.int .i64 (e.id).int,.str (e.id).text,.sl 5 (encVs (e.id).items),.sl 1 ((e.id).names.map .str),.int .i64 (e.doc).kind,.int .i64 (e.doc).int,.str (e.doc).text,.sl 5 (encVs (e.doc).items),.sl 1 ((e.doc).names.map .str),.sl 8 (e.deltas.map encD),.int .i64 e.session,.int .i64 e.number]:List D).map .d))∧oD p4=some (.row 5 1 (bytesD (codE4 e)))∧∀ t,t < nk→oD t=o t) ?_ (fun ⟨p4,oD,m4⟩ hA=>?_)
     ·
      refine wr ?_;refine um ?_;refine u_nil ?_;refine wc (fun hc27=>?_) (fun hc27=>?_) <;> try simp only [Q0,Q1,Q2,Q3,Q4,Q5,Q6,Q7,Q8,ge_iff_le,gt_iff_lt] at hc27
      ·
       have hb8:hsB e.kind 8=true:=by simpa using hc27
       replace hc27:=hb8;refine WP.reg tabOk rfl ?_;refine u_step (o_moveV (v:=.row _) rfl ?_);refine uf th30 th27 hB3 ?_;refine ug th27 hB3 ?_;refine u_step (o_rcall (rv1 (v:=e.doc) (s90 e.doc (check_may (hE.d.1 hb8)) ok.rd ok.sd)) rfl fun q28 o28 nk28 hqa28 hqb28 hb28 hk28=>?_);have hB3_28:=(hk28 _ (by omega)).trans hB3;have hR3_28:=(hk28 _ (by omega)).trans hR3;refine u_step (g_apr rfl rfl th52 rfl th5 rfl rfl (by decide) hR3_28 hb28 (by have:=codV_len (check_may (hE.d.1 hb8));have:=check_size (hE.d.1 hb8);simp only [bytesD_length];omega) (by have:=codV_len (check_may (hE.d.1 hb8));have:=check_size (hE.d.1 hb8);simp only [bytesD_length];omega) fun o29 hb29 hk29=>?_);have hB3_29:=(hk29 _ (by omega) (by omega)).trans hB3_28;have hb28_29:=(hk29 _ (by omega) (by omega)).trans hb28;refine u_step (o_assignV (v:=.row _) rfl ?_);refine u_nil ?_
       first | refine ⟨⟨_,o29,(nk28+1)⟩,⟨by omega,by omega,hB3_29,(hb29).trans (congrArg (fun z=>some (AO.row 5 1 z)) (optC_yes hc27)),(fun t ht=>(hk29 t (by omega) (by omega)).trans ((hk28 t (by omega)).trans ((hF3 t (by omega)))))⟩,Le.al ?_⟩ | refine ⟨⟨_,o29,(nk28+1)⟩,⟨by omega,by omega,hB3_29,(hb29).trans (congrArg (fun z=>some (AO.row 5 1 z)) (optC_no hc27)),(fun t ht=>(hk29 t (by omega) (by omega)).trans ((hk28 t (by omega)).trans ((hF3 t (by omega)))))⟩,Le.al ?_⟩
       simp only [List.forall_mem_cons];exact ⟨rfl,rfl,rfl,rfl,rfl,rfl,by simp⟩
      ·
       have hb8:¬ hsB e.kind 8=true:=by simpa using hc27
       replace hc27:=hb8;refine WP.skip ?_
       first | refine ⟨⟨_,oC,m3⟩,⟨by omega,by omega,hB3,(hR3).trans (congrArg (fun z=>some (AO.row 5 1 z)) (optC_yes hc27)),(fun t ht=>(hF3 t (by omega)))⟩,Le.al ?_⟩ | refine ⟨⟨_,oC,m3⟩,⟨by omega,by omega,hB3,(hR3).trans (congrArg (fun z=>some (AO.row 5 1 z)) (optC_no hc27)),(fun t ht=>(hF3 t (by omega)))⟩,Le.al ?_⟩
       simp only [List.forall_mem_cons];exact ⟨rfl,rfl,rfl,rfl,rfl,rfl,by simp⟩
     ·
      obtain ⟨hn4,hm4,hB4,hR4,hF4⟩:=hA;refine WP.seqI (ι:=Nat×(Nat→Option AO)×Nat) (fun ⟨p5,oE,m5⟩=>⟨al [(1,.loc nk 0),(3,.row p5),(5,.d (.bool (hsB e.kind 2))),(6,.d (.bool (hsB e.kind 4))),(7,.d (.bool (hsB e.kind 8))),(8,.d (.bool (hsB e.kind 16)))],oE,m5⟩) (fun ⟨p5,oE,m5⟩=>nk < p5∧p5 < m5∧oE nk=some (.box (([.int .i64 e.term,.int .i64 e.kind,.str e.coll,.str e.to,.int .i64 (e.id).kind,.int .i64 (e.id).int,.str (e.id).text,.sl 5 (encVs (e.id).items),.sl 1 ((e.id).names.map .str),.int .i64 (e.doc).kind,.int .i64 (e.doc).int,.str (e.doc).text,.sl 5 (encVs (e.doc).items),.sl 1 ((e.doc).names.map .str),.sl 8 (e.deltas.map encD),.int .i64 e.session,.int .i64 e.number]:List D).map .d))∧oE p5=some (.row 5 1 (bytesD (codE e)))∧∀ t,t < nk→oE t=o t) ?_ (fun ⟨p5,oE,m5⟩ hA=>?_)
      ·
       refine wr ?_;refine um ?_;refine u_nil ?_;refine wc (fun hc31=>?_) (fun hc31=>?_) <;> try simp only [Q0,Q1,Q2,Q3,Q4,Q5,Q6,Q7,Q8,ge_iff_le,gt_iff_lt] at hc31
       ·
        have hb16:hsB e.kind 16=true:=by simpa using hc31
        replace hc31:=hb16;refine WP.reg tabOk rfl ?_;refine u_step (o_moveV (v:=.row _) rfl ?_);refine uf th30 th28 hB4 ?_;refine ul th28 hB4 ?_;refine u_step (o_rcall (s35 e.deltas (hE.l.1 hb16) (ok.ds (checkD_len (hE.l.1 hb16)))) rfl fun q32 o32 nk32 hqa32 hqb32 hb32 hk32=>?_);have hB4_32:=(hk32 _ (by omega)).trans hB4;have hR4_32:=(hk32 _ (by omega)).trans hR4;refine u_step (g_apr rfl rfl th52 rfl th5 rfl rfl (by decide) hR4_32 hb32 (by have:=codDs_len (hE.l.1 hb16);simp only [bytesD_length];omega) (by have:=codDs_len (hE.l.1 hb16);simp only [bytesD_length];omega) fun o33 hb33 hk33=>?_);have hB4_33:=(hk33 _ (by omega) (by omega)).trans hB4_32;have hb32_33:=(hk33 _ (by omega) (by omega)).trans hb32;refine u_step (o_assignV (v:=.row _) rfl ?_);refine u_nil ?_
        first | refine ⟨⟨_,o33,(nk32+1)⟩,⟨by omega,by omega,hB4_33,(hb33).trans (congrArg (fun z=>some (AO.row 5 1 z)) (optC_yes hc31)),(fun t ht=>(hk33 t (by omega) (by omega)).trans ((hk32 t (by omega)).trans ((hF4 t (by omega)))))⟩,Le.al ?_⟩ | refine ⟨⟨_,o33,(nk32+1)⟩,⟨by omega,by omega,hB4_33,(hb33).trans (congrArg (fun z=>some (AO.row 5 1 z)) (optC_no hc31)),(fun t ht=>(hk33 t (by omega) (by omega)).trans ((hk32 t (by omega)).trans ((hF4 t (by omega)))))⟩,Le.al ?_⟩
        simp only [List.forall_mem_cons];exact ⟨rfl,rfl,rfl,rfl,rfl,rfl,by simp⟩
       ·
        have hb16:¬ hsB e.kind 16=true:=by simpa using hc31
        replace hc31:=hb16;refine WP.skip ?_
        first | refine ⟨⟨_,oD,m4⟩,⟨by omega,by omega,hB4,(hR4).trans (congrArg (fun z=>some (AO.row 5 1 z)) (optC_yes hc31)),(fun t ht=>(hF4 t (by omega)))⟩,Le.al ?_⟩ | refine ⟨⟨_,oD,m4⟩,⟨by omega,by omega,hB4,(hR4).trans (congrArg (fun z=>some (AO.row 5 1 z)) (optC_no hc31)),(fun t ht=>(hF4 t (by omega)))⟩,Le.al ?_⟩
        simp only [List.forall_mem_cons];exact ⟨rfl,rfl,rfl,rfl,rfl,rfl,by simp⟩
      ·
       obtain ⟨hn5,hm5,hB5,hR5,hF5⟩:=hA;refine wr ?_;refine u_step (o_moveV (v:=.row _) rfl ?_);refine u_step (o_assignV (v:=.row _) rfl ?_);refine u_nil (WP.ret ?_);refine rrow_ok rfl (by omega) (by omega) ?_ (fun t ht=>(hF5 t (by omega)));exact hR5
 exact o_moveV (v:=.row _) rfl ⟨rfl,rfl,rfl⟩
theorem s50n (e:Etr) (ok:OkE e) (hm:mayE e=false):PSpec Tryz.prog 50 [.d (encE e)] (.tup (([.nil,.int .i64 1]).map .d)):=by
 refine PSpec.of2 fn50 (by simp) fun o nk=>?_;refine wr ?_;refine u_step (g_box rfl fun o2 hb2 hk2=>?_);refine ua ?_;refine ua ?_;refine u_nil ?_;refine WP.seq fun K3 hK3=>?_;refine wr ?_;refine ug th30 hb2 ?_;refine u_step (o_pcall (s45 e ok) rfl ?_);refine uN ?_;refine u_nil ?_;refine wc (fun hc5=>?_) (fun hc5=>?_) <;> try simp only [Q0,Q1,Q2,Q3,Q4,Q5,Q6,Q7,Q8,ge_iff_le,gt_iff_lt] at hc5
 ·
  refine wr (ua (ua (u_nil (WP.ret ?_))));refine retT_ok ?_ (by omega) (fun t ht=>(hk2 t (by omega)));rfl
 ·
  have hgo:=hc5;rw [hm] at hgo;simp at hgo
  skip
theorem fn51:FnOkC Tryz.prog 51 15 [.cell 2 30,.tmp 3] (bodyOf Tryz.f51):=⟨Tryz.f51,Tryz.func51,by kernel_rfl,by decide,by kernel_rfl,by kernel_rfl⟩
theorem s51y (b:List UInt8) (hx:b.length≤1048576) (hd:doneS (rdEt rdAll rdDsP (b,false)).2=0):PSpec Tryz.prog 51 [.d (.sl 1 (b.map encB))] (.tup (([encE (rdEt rdAll rdDsP (b,false)).1,.int .i64 0]).map .d)):=by
 refine PSpec.of2C tabOk fn51 (by simp) fun o nk=>?_;refine wr ?_;refine u_step (g_alloc th30 rfl fun o2 hb2 hk2=>?_);refine ua ?_;refine u_nil ?_;refine wr ?_;refine um ?_;refine u_step (g_ncall (s36 b) rfl fun o4 hb4 hk4=>?_);have hb2_4:=(hk4 _ (by omega)).trans hb2;refine u_step (o_assignV (v:=.loc _ _) rfl ?_);refine u_nil ?_;refine wr ?_;refine u_step (o_moveV (v:=.loc _ _) rfl ?_);refine u_step (g_mcall (s54 (b,false) hx) hb4 rfl fun o6 hb6 hk6=>?_);have hb2_6:=(hk6 _ (by omega)).trans hb2_4;refine u_step (g_alloc th30 rfl fun o7 hb7 hk7=>?_);have hb2_7:=(hk7 _ (by omega)).trans hb2_6;have hb6_7:=(hk7 _ (by omega)).trans hb6;refine u_step0 (g_sta rfl rfl th30 rfl hb7 (by first | (simp;done) | (simp [D.leaves,D.width,valCells];done) | decide) fun o8 hb8 hk8=>?_);have hb2_8:=(hk8 _ (by omega)).trans hb2_7;have hb6_8:=(hk8 _ (by omega)).trans hb6_7;refine u_nil ?_;refine WP.seq fun K9 hK9=>?_;refine wr ?_;refine u_step (o_moveV (v:=.loc _ _) rfl ?_);refine u_step (o_scall (s39 _ hb6_8) rfl ?_);refine ub ?_;refine u_nil ?_;refine wc (fun hc11=>?_) (fun hc11=>?_) <;> try simp only [Q0,Q1,Q2,Q3,Q4,Q5,Q6,Q7,Q8,ge_iff_le,gt_iff_lt] at hc11
 ·
  rw [hd] at hc11;simp at hc11
 ·
  refine WP.skip (hK9 _ (wr (ug th30 hb8 ?_)));refine u_step0 (g_sta rfl rfl th30 rfl hb2_8 (by first | (simp;done) | (simp [D.leaves,D.width,valCells];done) | decide) fun o13 hb13 hk13=>?_);have hb6_13:=(hk13 _ (by omega)).trans hb6_8;have hb8_13:=(hk13 _ (by omega)).trans hb8;refine ua (u_nil (WP.ret ?_));refine retC_ok (resis_agg rfl th30 rfl hb13 rfl rfl rfl) rfl ?_ ?_ (by omega) (fun t ht=>(hk13 t (by omega)).trans ((hk8 t (by omega)).trans ((hk7 t (by omega)).trans ((hk6 t (by omega)).trans ((hk4 t (by omega)).trans ((hk2 t (by omega))))))))
  ·rfl
  ·rfl
structure OkF (f:Flt):Prop where
 lo:-9223372036854775808≤f.kinds
 hi:f.kinds≤9223372036854775807
theorem o_ia_G {P:Program} {Θ:Tab} {K:SV→(Nat→Option AO)→Nat→Prop} {sl:Nat→SV} {o:Nat→Option AO} {nk:Nat} {x ix:Operand} {t e:Nat} {α:Type} {i j:TI} {z:Nat} {xs:List α} {g:α→D} {k:IntKind} {m:Nat} (d0:α) (hx:ev sl x=.d (.sl z (xs.map g))) (hy:ev sl ix=.d (.int k (m:Int))) (hi:Θ t=some i) (hk:i.k=.slice e) (hj:Θ e=some j) (hz:z=j.sz) (hlt:m < xs.length) (h:K (.el (g (xs.getD m d0))) o nk):vOp P Θ (.indexAddr t x ix) ⟨sl,o,nk⟩ K:=o_ia_mapG d0 hx hy hi hk hj hz hlt h
instance:Inhabited Dlt:=⟨⟨0,[],zeroV,0⟩⟩
mutual
def nodesN:Val→Nat→Nat
 | .mk _ _ _ xs ns,d=>if 40 < d then 1048576 else nodesL xs d (1+ns.length)
def nodesL:List Val→Nat→Nat→Nat
 | [],_,n=>n
 | x :: xs,d,n=>if n < 65536 then nodesL xs d (n+nodesN x (d+1)) else n
end
mutual
theorem nodesN_le:∀ (v:Val) (d:Nat),nodesN v d≤1048576 * szV v
 | .mk k i t xs ns,d=>by
  have h1:=nodesL_le xs d (1+ns.length);have h2:=szN_len ns;simp only [nodesN,szV];split <;> omega
theorem nodesL_le:∀ (xs:List Val) (d n:Nat),nodesL xs d n≤n+1048576 * szVs xs
 | [],_,n=>by simp [nodesL,szVs]
 | x :: xs,d,n=>by
  have h1:=nodesN_le x (d+1);have h2:=nodesL_le xs d (n+nodesN x (d+1));simp only [nodesL,szVs];split <;> omega
end
theorem nodesL_at {xs:List Val} {i d n:Nat} (h:i < xs.length) (hn:n < 65536):nodesL (xs.drop i) d n=nodesL (xs.drop (i+1)) d (n+nodesN (xs[i]'h) (d+1)):=by
 rw [List.drop_eq_getElem_cons h,nodesL,if_pos hn]
theorem nodesL_full {xs:List Val} {i d n:Nat} (hi:i≤xs.length) (h:¬ (i < xs.length∧n < 65536)):nodesL (xs.drop i) d n=n:=by
 by_cases hx:i < xs.length
 ·rw [List.drop_eq_getElem_cons hx,nodesL,if_neg (by omega)]
 ·have e:xs.drop i=[]:=List.drop_eq_nil_of_le (by omega);rw [e,nodesL]
theorem wr_arg {P:Program} {f:FuncId} {x:SV} {m:Int} {c:Nat} {r:SV} (h:PSpec P f [x,.d (.int .i64 (c:Int))] r) (e:m=(c:Int)):PSpec P f [x,.d (.int .i64 m)] r:=by rw [e];exact h
theorem ltN (k n:Nat):decide ((k:Int) < (n:Int))=decide (k < n):=by
 rw [Bool.eq_iff_iff];simp only [decide_eq_true_eq];omega
theorem lt50 (n:Nat):decide ((50:Int) < (n:Int))=decide (50 < n):=ltN 50 n
def largeV (v:Val):Bool:=decide (3000 < nodesN v 0)
def largeD (l:List Dlt):Bool:=(l.take 70).any (fun d=>largeV d.value || decide (50 < d.path.length)) || decide (100 < l.length)
def largeE (e:Etr):Bool:=largeV e.id || largeV e.doc || largeD e.deltas
theorem szVs_take:∀ (xs:List Val) (i:Nat),szVs (xs.take i)≤szVs xs
 | [],i=>by simp [szVs]
 | x :: xs,0=>by simp [szVs]
 | x :: xs,i+1=>by
  have:=szVs_take xs i;simp only [List.take_succ_cons,szVs];omega
theorem szVs_snoc:∀ {xs:List Val} {i:Nat} (h:i < xs.length),szVs (xs.take (i+1))=szVs (xs.take i)+szV (xs[i]'h)
 | x :: xs,0,_=>by simp [szVs]
 | x :: xs,i+1,h=>by
  have:=szVs_snoc (xs:=xs) (i:=i) (by simpa using h);simp only [List.take_succ_cons,szVs,this,List.getElem_cons_succ];omega
theorem take70 {l:List Dlt} {p:Dlt→Bool} {i:Nat} (hi:i≤l.length) (h:∀ (j:Nat) (hj:j < l.length),j < i→p l[j]=false) (he:¬ (i < l.length∧i < 70)):(l.take 70).any p=false:=by
 rw [List.any_eq_false];intro x hx;obtain ⟨j,hj,rfl⟩:=List.mem_iff_getElem.1 hx;rw [List.getElem_take];simp at hj;rw [h j (by omega) (by omega)];simp
theorem take70t {l:List Dlt} {p:Dlt→Bool} {i:Nat} (hi:i < l.length) (h7:i < 70) (hp:p (l[i]'hi)=true):(l.take 70).any p=true:=
 List.any_eq_true.2 ⟨l[i],List.mem_iff_getElem.2 ⟨i,by simp;omega,by rw [List.getElem_take]⟩,hp⟩
theorem fn69:FnOk Tryz.prog 69 35 [4] (bodyOf Tryz.f69):=⟨Tryz.f69,Tryz.func69,by kernel_rfl,by decide,by kernel_rfl,by kernel_rfl⟩
theorem s69A (m:Nat):∀ (v:Val) (d:Nat),SizeOf.sizeOf v < m→szV v≤1099511627776→d≤41→PSpec Tryz.prog 69 [.d (encV v),.d (.int .i64 (d:Int))] (.d (.int .i64 (nodesN v d:Nat))):=by
 induction m with
 | zero=>intros;omega
 | succ m ih=>
  rintro ⟨kd,it,tx,xs,ns⟩ d hv hsz hd;have hsz2:1+tx.length+szVs xs+szN ns≤1099511627776:=hsz;have hxl:=szVs_len xs;have hnl:=szN_len ns;have hln:=encVs_length xs;refine PSpec.of fn69 (by simp) fun o nk=>?_;refine wr ?_;refine u_step (g_box rfl fun o2 hb2 hk2=>?_);refine ua ?_;refine u_nil ?_;refine WP.seq fun K3 hK3=>?_;refine wr ?_;refine um ?_;refine ub ?_;refine u_nil ?_;refine wc (fun hc5=>?_) (fun hc5=>?_) <;> try simp only [Q0,Q1,Q2,Q3,Q4,Q5,Q6,Q7,Q8,ge_iff_le,gt_iff_lt] at hc5
  ·
   refine wr (ua (u_nil (WP.ret ?_)));refine ret_ok rfl ?_ (by omega) (fun t ht=>(hk2 t (by omega)));clear hK3;refine congrArg (D.int .i64) ?_;have hq:40 < d:=by have:=hc5;(try simp at this);omega
   rw [nodesN,if_pos hq];rfl
  ·
   have hd40:¬ 40 < d:=by have:=hc5;(try simp at this);omega
   refine WP.skip (hK3 _ (wr (uf th27 th22 hb2 ?_)));refine ul th22 hb2 ?_;refine un th22 ?_;refine ub (ua (u_nil (WP.seq fun K8 hK8=>?_)));refine wr (ua (u_nil (WP.block ?_)));refine WP.loopL (ι:=Nat×Nat) (fun ⟨i,n⟩=>⟨al [(1,.d (.int .i64 (d:Int))),(2,.loc nk 0),(5,.d (.int .i64 (n:Nat))),(6,.d (.int .i64 i))],o2,(nk+1)⟩) (fun ⟨i,n⟩=>i≤xs.length∧n≤1+ns.length+1048576 * szVs (xs.take i)∧nodesL (xs.drop i) d n=nodesL xs d (1+ns.length)) (fun ⟨i,n⟩=>xs.length - i) (fun ⟨i,n⟩ hA=>?_) ⟨0,1+ns.length⟩ ?_ ?_
   ·
    obtain ⟨hle,hnb,hnn⟩:=hA;refine WP.seq fun K10 hK10=>?_;refine wr (um (uf th27 th25 hb2 ?_));refine ul th25 hb2 ?_;refine un th25 ?_;refine ub (um ?_);apply gT
    ·rfl
    ·intro hg;exact pm
    apply gT
    ·rfl
    ·intro hg;try simp only [hg,ct,Bt]
     exact pb
    refine uA ?_;refine u_nil ?_;refine wc (fun hc12=>?_) (fun hc12=>?_) <;> try simp only [Q0,Q1,Q2,Q3,Q4,Q5,Q6,Q7,Q8,ge_iff_le,gt_iff_lt] at hc12
    ·
     have hin2:i < xs.length∧n < 65536:=by have:=hc12;(try simp [encVs_length] at this);omega
     refine WP.skip (hK10 _ (WP.seq fun K13 hK13=>?_));refine WP.block (WP.reg tabOk rfl ?_);refine um (uf th27 th25 hb2 ?_);refine ul th25 hb2 ?_;refine um ?_
     first | refine u_step (o_ia_map rfl rfl th25 rfl th27 rfl (by omega) ?_) | refine u_step (o_ia_vs rfl rfl th25 rfl th27 rfl (by omega) ?_)
     refine uL th27 ?_;refine um (ub ?_);refine u_step (o_pcall (wr_arg (c:=d+1) (ih xs[i] (d+1) (by exact items_lt' (by omega) hv) (by have:=szVs_get (xs:=xs) (j:=i) (by omega);omega) (by omega)) (by rw [wrap_i64 (by omega) (by omega)];omega)) rfl ?_);refine ub (ua (u_nil (hK13 _ (WP.reg tabOk rfl ?_))));refine um (ub (ua (u_nil ?_)));have hb1:=nodesN_le xs[i] (d+1);have hb2:=szVs_snoc (xs:=xs) (i:=i) (by omega);have hb3:=szVs_take xs (i+1);refine ⟨⟨i+1,n+nodesN xs[i] (d+1)⟩,⟨by omega,by omega,?_⟩,by simp only;omega,?_⟩
     ·rw [← hnn,nodesL_at hin2.1 hin2.2]
     ·refine Le.al ?_;simp only [List.forall_mem_cons];exact ⟨rfl,rfl,add_w rfl (by omega),cnt (by omega),by simp⟩
    ·
     have hin2:¬ (i < xs.length∧n < 65536):=by have:=hc12;(try simp [encVs_length] at this);omega
     refine WP.exit ?_;refine hK8 _ (wr (um (ua (u_nil (WP.ret ?_)))));refine ret_ok rfl ?_ (by omega) (fun t ht=>(hk2 t (by omega)));clear hK3 hK8 hK10;refine congrArg (D.int .i64) ?_;rw [nodesN,if_neg hd40,← hnn,nodesL_full hle hin2]
   ·
    exact ⟨by omega,by omega,rfl⟩
   ·
    refine Le.al ?_;simp only [List.forall_mem_cons];refine ⟨rfl,rfl,?_,rfl,by simp⟩;have hw:IntKind.i64.wrap (1+((ns.map D.str).length:Int))=((1+ns.length:Nat):Int):=by rw [List.length_map,wrap_i64 (by omega) (by omega)];omega
    rw [← hw];rfl
theorem s69 (v:Val) (d:Nat) (hsz:szV v≤1099511627776) (hd:d≤41):PSpec Tryz.prog 69 [.d (encV v),.d (.int .i64 (d:Int))] (.d (.int .i64 (nodesN v d:Nat))):=s69A _ v d (Nat.lt_succ_self _) hsz hd
theorem fn26:FnOk Tryz.prog 26 6 [2] (bodyOf Tryz.f26):=⟨Tryz.f26,Tryz.func26,by kernel_rfl,by decide,by kernel_rfl,by kernel_rfl⟩
theorem s26 (v:Val) (hsz:szV v≤1099511627776):PSpec Tryz.prog 26 [.d (encV v)] (.d (.bool (largeV v))):=by
 obtain ⟨kd,it,tx,xs,ns⟩:=v;refine PSpec.of fn26 (by simp) fun o nk=>?_;refine wr ?_;refine u_step (g_box rfl fun o2 hb2 hk2=>?_);refine ua (u_nil (wr (ug th27 hb2 ?_)));refine u_step (o_pcall (s69 (.mk kd it tx xs ns) 0 hsz (by omega)) rfl ?_);refine ub (ua (u_nil (WP.ret ?_)));refine ret_ok rfl ?_ (by omega) (fun t ht=>(hk2 t (by omega)));refine congrArg D.bool ?_;unfold largeV;rw [Bool.eq_iff_iff];simp only [decide_eq_true_eq];omega
theorem fn25:FnOk Tryz.prog 25 32 [2] (bodyOf Tryz.f25):=⟨Tryz.f25,Tryz.func25,by kernel_rfl,by decide,by kernel_rfl,by kernel_rfl⟩
theorem s25 (l:List Dlt) (hl:∀ d∈l,szV d.value≤1099511627776):PSpec Tryz.prog 25 [.d (.sl 8 (l.map encD))] (.d (.bool (largeD l))):=by
 refine PSpec.bd fun hbd=>?_;have hx:l.length≤9223372036854775807:=by simpa using hbd.1.1
 refine PSpec.of fn25 (by simp) fun o nk=>?_;refine wr (ua (u_nil (WP.seq fun K2 hK2=>?_)));refine wr (ua (u_nil (WP.block ?_)));refine WP.loopL (ι:=Nat) (fun i=>⟨al [(0,.d (.sl 8 (l.map encD))),(3,.d (.int .i64 i))],o,nk⟩) (fun i=>i≤l.length∧∀ (j:Nat) (hj:j < l.length),j < i→(largeV l[j].value || decide (50 < l[j].path.length))=false) (fun i=>l.length - i) (fun i hA=>?_) 0 ?_ ?_
 ·
  obtain ⟨hle_i,hin_i⟩:=hA;refine WP.seq fun K4 hK4=>?_;refine wr (um (um (un th28 ?_)));refine ub (um ?_);apply gT
  ·rfl
  ·intro hg;exact pm
  apply gT
  ·rfl
  ·intro hg;try simp only [hg,ct,Bt]
   exact pb
  refine uA ?_;refine u_nil ?_;refine wc (fun hc6=>?_) (fun hc6=>?_) <;> try simp only [Q0,Q1,Q2,Q3,Q4,Q5,Q6,Q7,Q8,ge_iff_le,gt_iff_lt] at hc6
  ·
   have hin2:i < l.length∧i < 70:=by have:=hc6;(try simp at this);omega
   have hil:=hin2.1;have hgd:l.getD i default=l[i]:=by simp [hil]
   refine WP.skip (hK4 _ (WP.seq fun K7 hK7=>?_));refine WP.block (wr (um (um ?_)));refine u_step (o_ia_G (xs:=l) default rfl rfl th28 rfl th83 rfl hin2.1 ?_);refine uF th83 th27 ?_;refine uL th27 ?_;refine u_step (o_pcall (pv (v:=(l.getD i default).value) (s26 _ (by rw [hgd];exact hl _ (List.getElem_mem _)))) rfl ?_);refine um ?_;apply gF
   ·rfl
   ·intro hg;exact pm
   apply gF
   ·rfl
   ·intro hg;exact pm
   apply gF
   ·rfl
   ·intro hg;try simp only [hg,ct,Bt]
    refine o_ia_G (xs:=l) default rfl rfl th28 rfl th83 rfl hin2.1 ⟨rfl,rfl,rfl⟩
   apply gF
   ·rfl
   ·intro hg;try simp only [hg,ct,Bt]
    exact pF th83 th22
   apply gF
   ·rfl
   ·intro hg;try simp only [hg,ct,Bt]
    exact pL th22
   apply gF
   ·rfl
   ·intro hg;try simp only [hg,ct,Bt]
    exact pn th22
   apply gF
   ·rfl
   ·intro hg;try simp only [hg,ct,Bt]
    exact pb
   refine uO ?_;refine u_nil ?_;refine wc (fun hc9=>?_) (fun hc9=>?_) <;> try simp only [Q0,Q1,Q2,Q3,Q4,Q5,Q6,Q7,Q8,ge_iff_le,gt_iff_lt] at hc9
   ·
    refine wr (ua (u_nil (WP.ret ?_)));refine ret_ok rfl ?_ (by omega) (fun _ _=>rfl);clear hK2 hK4 hK7;refine congrArg D.bool ?_;have hlq:=hc9;unfold largeD;rw [take70t (p:=fun d=>largeV d.value || decide (50 < d.path.length)) hin2.1 hin2.2 (by rw [hgd] at hlq;simpa only [List.length_map,lt50] using hlq)];rfl
   ·
    refine WP.skip (hK7 _ (WP.reg tabOk rfl ?_));refine um (ub (ua (u_nil ?_)));refine ⟨i+1,⟨by omega,?_⟩,by omega,?_⟩
    ·intro j hj h1;by_cases h2:j=i
     ·subst h2;have hlq:=hc9;rw [hgd] at hlq;simpa only [List.length_map,lt50] using hlq
     ·exact hin_i j hj (by omega)
    ·refine Le.al ?_;simp only [List.forall_mem_cons];exact ⟨rfl,cnt (by omega),by simp⟩
  ·
   have hin2:¬ (i < l.length∧i < 70):=by have:=hc6;(try simp at this);omega
   refine WP.exit ?_;refine hK2 _ (wr (um (un th28 ?_)));refine ub (ua (u_nil (WP.ret ?_)));refine ret_ok rfl ?_ (by omega) (fun _ _=>rfl);clear hK2 hK4;refine congrArg D.bool ?_;unfold largeD;rw [take70 (p:=fun d=>largeV d.value || decide (50 < d.path.length)) hle_i hin_i hin2,Bool.eq_iff_iff];simp;omega
 ·
  simp
 ·
  refine Le.al ?_;simp only [List.forall_mem_cons];exact ⟨rfl,rfl,by simp⟩
theorem fn22:FnOk Tryz.prog 22 16 [2] (bodyOf Tryz.f22):=⟨Tryz.f22,Tryz.func22,by kernel_rfl,by decide,by kernel_rfl,by kernel_rfl⟩
theorem s22 (e:Etr) (ok:OkE e) (okd:∀ d∈e.deltas,szV d.value≤1099511627776):PSpec Tryz.prog 22 [.d (encE e)] (.d (.bool (largeE e))):=by
 refine PSpec.of fn22 (by simp) fun o nk=>?_;refine wr ?_;refine u_step (g_box rfl fun o2 hb2 hk2=>?_);refine ua (u_nil (wr (uf th30 th27 hb2 ?_)));refine ug th27 hb2 ?_;refine u_step (o_pcall (pv (v:=e.id) (s26 e.id ok.si)) rfl ?_);refine um ?_;apply gF
 ·rfl
 ·intro hg;exact pf th30 th27 hb2
 apply gF
 ·rfl
 ·intro hg;try simp only [hg,ct,Bt]
  exact pg th27 hb2
 apply gF
 ·rfl
 ·intro hg;try simp only [hg,ct,Bt]
  refine o_pcall (pv (v:=e.doc) (s26 e.doc ok.sd)) rfl ⟨rfl,rfl,rfl⟩
 refine uO (um ?_);apply gF
 ·rfl
 ·intro hg;exact pf th30 th28 hb2
 apply gF
 ·rfl
 ·intro hg;try simp only [hg,ct,Bt]
  exact pl th28 hb2
 apply gF
 ·rfl
 ·intro hg;try simp only [hg,ct,Bt]
  refine o_pcall (s25 e.deltas okd) rfl ⟨rfl,rfl,rfl⟩
 refine uO (ua (u_nil (WP.ret ?_)));refine ret_ok rfl ?_ (by omega) (fun t ht=>(hk2 t (by omega)));rfl
end Go.Proofs.YtpkcbdhjnnnkbaaGreat.Abs

namespace Go.Proofs.YtpkcbdhjnnnkbaaGreat.Abs.Run44
open Go
noncomputable def tbl:List (Nat×Func):=[(34,Tryz.f34),(36,Tryz.f36),(38,Tryz.f38),(39,Tryz.f39),(41,Tryz.f41),(42,Tryz.f42),(44,Tryz.f44),(45,Tryz.f45),(47,Tryz.f47),(48,Tryz.f48),(50,Tryz.f50),(51,Tryz.f51),(54,Tryz.f54),(56,Tryz.f56),(70,Tryz.f70),(71,Tryz.f71),(72,Tryz.f72),(73,Tryz.f73),(74,Tryz.f74),(75,Tryz.f75),(76,Tryz.f76),(77,Tryz.f77),(84,Tryz.f84),(85,Tryz.f85),(86,Tryz.f86),(87,Tryz.f87),(92,Tryz.f92),(93,Tryz.f93),(98,Tryz.f98),(99,Tryz.f99),(100,Tryz.f100),(101,Tryz.f101),(102,Tryz.f102),(103,Tryz.f103),(104,Tryz.f104),(106,Tryz.f106),(107,Tryz.f107),(108,Tryz.f108),(109,Tryz.f109),(110,Tryz.f110),(111,Tryz.f111),(112,Tryz.f112),(114,Tryz.f114),(119,Tryz.f119),(120,Tryz.f120),(121,Tryz.f121),(122,Tryz.f122),(123,Tryz.f123),(124,Tryz.f124),(125,Tryz.f125),(126,Tryz.f126),(127,Tryz.f127),(128,Tryz.f128),(129,Tryz.f129),(130,Tryz.f130),(137,Tryz.f137),(138,Tryz.f138),(139,Tryz.f139),(142,Tryz.f142),(143,Tryz.f143),(146,Tryz.f146),(147,Tryz.f147),(148,Tryz.f148),(149,Tryz.f149),(150,Tryz.f150),(151,Tryz.f151),(152,Tryz.f152),(153,Tryz.f153),(154,Tryz.f154),(155,Tryz.f155),(156,Tryz.f156),(157,Tryz.f157),(158,Tryz.f158),(159,Tryz.f159),(160,Tryz.f160),(161,Tryz.f161),(162,Tryz.f162),(163,Tryz.f163),(169,Tryz.f169),(172,Tryz.f172),(173,Tryz.f173),(174,Tryz.f174),(175,Tryz.f175),(176,Tryz.f176),(177,Tryz.f177),(178,Tryz.f178),(179,Tryz.f179),(180,Tryz.f180),(181,Tryz.f181),(182,Tryz.f182),(183,Tryz.f183),(184,Tryz.f184),(185,Tryz.f185),(186,Tryz.f186),(187,Tryz.f187),(194,Tryz.f194),(195,Tryz.f195),(196,Tryz.f196),(197,Tryz.f197),(199,Tryz.f199),(202,Tryz.f202),(203,Tryz.f203),(204,Tryz.f204),(205,Tryz.f205),(206,Tryz.f206),(207,Tryz.f207),(209,Tryz.f209),(210,Tryz.f210),(211,Tryz.f211)]
theorem tbl_ok : ∀ p ∈ tbl, Tryz.prog.funcs[p.1]? = some p.2 ∧ (p.2.name == "runtime.NumGoroutine") = false := by
 simp only [tbl,List.forall_mem_cons];exact ⟨⟨Tryz.func34,by kernel_rfl⟩,⟨Tryz.func36,by kernel_rfl⟩,⟨Tryz.func38,by kernel_rfl⟩,⟨Tryz.func39,by kernel_rfl⟩,⟨Tryz.func41,by kernel_rfl⟩,⟨Tryz.func42,by kernel_rfl⟩,⟨Tryz.func44,by kernel_rfl⟩,⟨Tryz.func45,by kernel_rfl⟩,⟨Tryz.func47,by kernel_rfl⟩,⟨Tryz.func48,by kernel_rfl⟩,⟨Tryz.func50,by kernel_rfl⟩,⟨Tryz.func51,by kernel_rfl⟩,⟨Tryz.func54,by kernel_rfl⟩,⟨Tryz.func56,by kernel_rfl⟩,⟨Tryz.func70,by kernel_rfl⟩,⟨Tryz.func71,by kernel_rfl⟩,⟨Tryz.func72,by kernel_rfl⟩,⟨Tryz.func73,by kernel_rfl⟩,⟨Tryz.func74,by kernel_rfl⟩,⟨Tryz.func75,by kernel_rfl⟩,⟨Tryz.func76,by kernel_rfl⟩,⟨Tryz.func77,by kernel_rfl⟩,⟨Tryz.func84,by kernel_rfl⟩,⟨Tryz.func85,by kernel_rfl⟩,⟨Tryz.func86,by kernel_rfl⟩,⟨Tryz.func87,by kernel_rfl⟩,⟨Tryz.func92,by kernel_rfl⟩,⟨Tryz.func93,by kernel_rfl⟩,⟨Tryz.func98,by kernel_rfl⟩,⟨Tryz.func99,by kernel_rfl⟩,⟨Tryz.func100,by kernel_rfl⟩,⟨Tryz.func101,by kernel_rfl⟩,⟨Tryz.func102,by kernel_rfl⟩,⟨Tryz.func103,by kernel_rfl⟩,⟨Tryz.func104,by kernel_rfl⟩,⟨Tryz.func106,by kernel_rfl⟩,⟨Tryz.func107,by kernel_rfl⟩,⟨Tryz.func108,by kernel_rfl⟩,⟨Tryz.func109,by kernel_rfl⟩,⟨Tryz.func110,by kernel_rfl⟩,⟨Tryz.func111,by kernel_rfl⟩,⟨Tryz.func112,by kernel_rfl⟩,⟨Tryz.func114,by kernel_rfl⟩,⟨Tryz.func119,by kernel_rfl⟩,⟨Tryz.func120,by kernel_rfl⟩,⟨Tryz.func121,by kernel_rfl⟩,⟨Tryz.func122,by kernel_rfl⟩,⟨Tryz.func123,by kernel_rfl⟩,⟨Tryz.func124,by kernel_rfl⟩,⟨Tryz.func125,by kernel_rfl⟩,⟨Tryz.func126,by kernel_rfl⟩,⟨Tryz.func127,by kernel_rfl⟩,⟨Tryz.func128,by kernel_rfl⟩,⟨Tryz.func129,by kernel_rfl⟩,⟨Tryz.func130,by kernel_rfl⟩,⟨Tryz.func137,by kernel_rfl⟩,⟨Tryz.func138,by kernel_rfl⟩,⟨Tryz.func139,by kernel_rfl⟩,⟨Tryz.func142,by kernel_rfl⟩,⟨Tryz.func143,by kernel_rfl⟩,⟨Tryz.func146,by kernel_rfl⟩,⟨Tryz.func147,by kernel_rfl⟩,⟨Tryz.func148,by kernel_rfl⟩,⟨Tryz.func149,by kernel_rfl⟩,⟨Tryz.func150,by kernel_rfl⟩,⟨Tryz.func151,by kernel_rfl⟩,⟨Tryz.func152,by kernel_rfl⟩,⟨Tryz.func153,by kernel_rfl⟩,⟨Tryz.func154,by kernel_rfl⟩,⟨Tryz.func155,by kernel_rfl⟩,⟨Tryz.func156,by kernel_rfl⟩,⟨Tryz.func157,by kernel_rfl⟩,⟨Tryz.func158,by kernel_rfl⟩,⟨Tryz.func159,by kernel_rfl⟩,⟨Tryz.func160,by kernel_rfl⟩,⟨Tryz.func161,by kernel_rfl⟩,⟨Tryz.func162,by kernel_rfl⟩,⟨Tryz.func163,by kernel_rfl⟩,⟨Tryz.func169,by kernel_rfl⟩,⟨Tryz.func172,by kernel_rfl⟩,⟨Tryz.func173,by kernel_rfl⟩,⟨Tryz.func174,by kernel_rfl⟩,⟨Tryz.func175,by kernel_rfl⟩,⟨Tryz.func176,by kernel_rfl⟩,⟨Tryz.func177,by kernel_rfl⟩,⟨Tryz.func178,by kernel_rfl⟩,⟨Tryz.func179,by kernel_rfl⟩,⟨Tryz.func180,by kernel_rfl⟩,⟨Tryz.func181,by kernel_rfl⟩,⟨Tryz.func182,by kernel_rfl⟩,⟨Tryz.func183,by kernel_rfl⟩,⟨Tryz.func184,by kernel_rfl⟩,⟨Tryz.func185,by kernel_rfl⟩,⟨Tryz.func186,by kernel_rfl⟩,⟨Tryz.func187,by kernel_rfl⟩,⟨Tryz.func194,by kernel_rfl⟩,⟨Tryz.func195,by kernel_rfl⟩,⟨Tryz.func196,by kernel_rfl⟩,⟨Tryz.func197,by kernel_rfl⟩,⟨Tryz.func199,by kernel_rfl⟩,⟨Tryz.func202,by kernel_rfl⟩,⟨Tryz.func203,by kernel_rfl⟩,⟨Tryz.func204,by kernel_rfl⟩,⟨Tryz.func205,by kernel_rfl⟩,⟨Tryz.func206,by kernel_rfl⟩,⟨Tryz.func207,by kernel_rfl⟩,⟨Tryz.func209,by kernel_rfl⟩,⟨Tryz.func210,by kernel_rfl⟩,⟨Tryz.func211,by kernel_rfl⟩,by simp⟩
noncomputable def nofr:List Nat:=[34,38,54,85,87,92,93,104,106,107,108,109,138,139,143,151,179,180]
noncomputable def pures:List Nat:=[45,47,48,51,56,70,71,72,73,74,76,77,98,99,100,101,102,103,110,111,114,120,122,123,124,125,126,128,130,146,147,148,149,150,152,153,155,156,157,158,160,161,162,172,173,174,175,176,181,182,183,184,186,187,194,195,196,197,199,202,203,204,205,206,207,209,210,211]
def natF (f:Nat) (asx:List SV):Option D:=
 match asx with
 | [.d (.str s),.d (.int .u8 c)]=>bif Nat.beq f 208 then some (.int .i64 (Go.Lib.indexByte s c.toNat.toUInt8)) else none
 | [.d (.str s),.d (.str t)]=>bif Nat.beq f 212 then some (.int .i64 (Go.Lib.compareBytes s t)) else none
 | _=>none
theorem natF_ok (f:Nat) (asx:List SV) (d:D) (h:natF f asx=some d):PSpec Tryz.prog f asx (.d d):=by
 unfold natF at h;split at h
 ·rw [TM.beq_cond] at h;split at h
  ·rename_i hf;subst hf;simp only [Option.some.injEq] at h;subst h;exact s208 _ _
  ·cases h
 ·rw [TM.beq_cond] at h;split at h
  ·rename_i hf;subst hf;simp only [Option.some.injEq] at h;subst h;exact s212 _ _
  ·cases h
 ·cases h
noncomputable def env:Env:=⟨Θ,tbF tbl,natF,fun f=>(nofr++[0,1,2,3,4,5,6,7,8,9,10,11,12,13,14,15,16,17,18,19,20,21,22,23,24,25,26,27,28,29,30,31,32,33,34,35,36,37,38,39,40,41,42,43,44,45,46,47,48,49,50,51,52,53,54,55,56,57,58,59,60,61,62,63,64,65,66,67,68,69,70,71,72,73,74,75,76,77,78,79,80,81,82,83,84,85,86,87,88,89,90,91,92,93,94,95,96,97,98,99,100,101,102,103,104,105,106,107,108,109,110,111,112,113,114,115,116,117,118,119,120,121,122,123,124,125,126,127,128,129,130,131,132,133,134,135,136,137,138,139,140,141,142,143,144,145,146,147,148,149,150,151,152,153,154,155,156,157,158,159,160,161,162,163,164,165,166,167,168,169,170,171,172,173,174,175,176,177,178,179,180,181,182,183,184,185,186,187,188,189,190,191,192,193,194,195,196,197,198,199,200,201,202,203,204,205,206,207,208,209,210,211,212,213,214,215,216,217,218,219,220,221,222,223,224,225,226,227,228,229,230,231,232,233,234,235,236,237,238,239,240,241,242,243,244,245,246,247,248,249,250,251,252,253,254,255,256,257,258,259,260,261,262,263,264,265,266,267,268,269,270,271,272,273,274,275,276,277,278,279,280,281,282,283,284,285,286,287,288,289,290,291,292,293,294,295,296,297,298,299,300,301,302,303,304,305,306,307,308,309,310,311,312,313,314,315,316,317,318,319,320,321,322,323,324,325,326,327,328,329,330]).contains f,fun f=>pures.contains f,fun _ _ _ _=>none⟩
theorem envOk:EnvOk Tryz.prog env:=⟨tabOk,fun f fn h=>tbF_ok tbl tbl_ok f fn h,natF_ok,mix,fun _ _ _ _ _ _ _ h=>by cases h⟩
theorem ran:isD (.bool true) (xCall env 1000000 44 (([]:List D).map .d) .e 0)=true:=by kernel_rfl
theorem s:PSpec Tryz.prog 44 (([]:List D).map .d) (.d (.bool true)):=PSpec.run envOk 1000000 (xs:=([]:List D)) ran
end Go.Proofs.YtpkcbdhjnnnkbaaGreat.Abs.Run44
namespace Go.Proofs.YtpkcbdhjnnnkbaaGreat.Abs
theorem s44:PSpec Tryz.prog 44 (([]:List D).map .d) (.d (.bool true)):=Run44.s
theorem o_cv_sr {P:Program} {Θ:Tab} {K:SV→(Nat→Option AO)→Nat→Prop} {sl:Nat→SV} {o:Nat→Option AO} {nk e q:Nat} {x:Operand} {i j je:TI} {src dst:Nat} {b:List UInt8} (hx:ev sl x=.row q) (ho:o q=some (.row e 1 (bytesD b))) (hi:Θ src=some i) (hik:i.k=.slice e) (he:Θ e=some je) (hek:je.k=.int .u8) (hj:Θ dst=some j) (hk:j.k=.str) (h:K (.d (.str b)) o nk):vOp P Θ (.convert src dst x) ⟨sl,o,nk⟩ K:=by
 refine Or.inl ?_;show coOp Θ o src dst (ev sl x) (fun v=>K v o nk);rw [hx];refine ⟨i,j,hi,hj,hk,⟨e,je,hik,he,hek⟩,bytesD b,b,by simp [srcOf,ho],?_,h⟩;exact byteL_bytesD b
theorem o_pick_T {P:Program} {Θ:Tab} {K:SV→(Nat→Option AO)→Nat→Prop} {sl:Nat→SV} {o:Nat→Option AO} {nk:Nat} {x y c:Operand} {p q:Bool} (hc:ev sl c=.d (.bool p)) (hp:p=true) (hx:ev sl x=.d (.bool q)) (hy:ev sl y=.d (.bool false)) (h:K (.d (.bool q)) o nk):vOp P Θ (.pick c x y) ⟨sl,o,nk⟩ K:=by
 subst hp;exact o_pick_and hc (hx.trans (cnd_T _).symm) hy (by rw [Bool.true_and];exact h)
theorem s51c (e:Etr) (hlen:(codE e).length≤1048576) (hrt:rdEt rdAll rdDsP (codE e,false)=(e,([],false))):PSpec Tryz.prog 51 [.d (.sl 1 (bytesD (codE e)))] (.tup [.d (encE e),.d (.int .i64 0)]):=by
 have h:=s51y (codE e) hlen (by rw [hrt];rfl);rw [hrt] at h;exact h
theorem fn10:FnOk Tryz.prog 10 51 [2] (bodyOf Tryz.f10):=⟨Tryz.f10,Tryz.func10,by kernel_rfl,by decide,by kernel_rfl,by kernel_rfl⟩
theorem s10n (e:Etr) (ok:OkE e) (okd:∀ d∈e.deltas,szV d.value≤1099511627776) (hm:mayE e=false):PSpec Tryz.prog 10 [.d (encE e)] (.d (.bool true)):=by
 refine PSpec.of fn10 (by simp) fun o nk=>?_;refine wr ?_;refine u_step (g_box rfl fun o2 hb2 hk2=>?_);refine ua ?_;refine u_nil ?_;refine WP.seq fun K3 hK3=>?_;refine wr ?_;refine ug th30 hb2 ?_;refine u_step (o_pcall (s22 e ok okd) rfl ?_);refine u_nil ?_;refine wc (fun hc5=>?_) (fun hc5=>?_) <;> try simp only [Q0,Q1,Q2,Q3,Q4,Q5,Q6,Q7,Q8,ge_iff_le,gt_iff_lt] at hc5
 ·
  refine wr ?_;refine u_step (o_pcall (s44) rfl ?_);refine ua (u_nil (WP.ret ?_));refine ret_ok rfl ?_ (by omega) (fun t ht=>(hk2 t (by omega)));rfl
 ·
  refine WP.skip ?_;refine hK3 _ ?_;refine wr ?_;refine ug th30 hb2 ?_;refine u_step (o_pcall (s50n e ok hm) rfl ?_);refine u_step (o_moveV (v:=.tup _) rfl ?_);refine ue ?_;refine ue ?_;refine ua ?_;refine ua ?_;refine u_nil ?_;refine WP.seq fun K8 hK8=>?_;refine wr ?_;refine u_step (o_pcall (s44) rfl ?_);refine uN ?_;refine u_nil ?_;refine wc (fun hc10=>?_) (fun hc10=>?_) <;> try simp only [Q0,Q1,Q2,Q3,Q4,Q5,Q6,Q7,Q8,ge_iff_le,gt_iff_lt] at hc10
  ·
   simp at hc10
  ·
   refine WP.skip ?_;refine hK8 _ ?_;refine WP.seq fun K11 hK11=>?_;refine wr ?_;refine ug th30 hb2 ?_;refine u_step (o_pcall (s24 e ok) rfl ?_);refine uN ?_;refine u_nil ?_;refine wc (fun hc13=>?_) (fun hc13=>?_) <;> try simp only [Q0,Q1,Q2,Q3,Q4,Q5,Q6,Q7,Q8,ge_iff_le,gt_iff_lt] at hc13
   ·
    refine wr (um ?_);refine u_step (o_len_nil rfl th52 rfl ?_);refine ub (um ?_);apply gT
    ·rfl
    ·intro hg;exact pm
    apply gT
    ·rfl
    ·intro hg;try simp only [hg,ct,Bt]
     exact pb
    refine uA (ua (u_nil (WP.ret ?_)));refine ret_ok rfl ?_ (by omega) (fun t ht=>(hk2 t (by omega)));rfl
   ·
    rw [hm] at hc13;simp at hc13
theorem s10y (e:Etr) (ok:OkE e) (okd:∀ d∈e.deltas,szV d.value≤1099511627776) (hm:mayE e=true) (hlen:(codE e).length≤1048576) (hrt:rdEt rdAll rdDsP (codE e,false)=(e,([],false))):PSpec Tryz.prog 10 [.d (encE e)] (.d (.bool true)):=by
 refine PSpec.of fn10 (by simp) fun o nk=>?_;refine wr ?_;refine u_step (g_box rfl fun o2 hb2 hk2=>?_);refine ua ?_;refine u_nil ?_;refine WP.seq fun K3 hK3=>?_;refine wr ?_;refine ug th30 hb2 ?_;refine u_step (o_pcall (s22 e ok okd) rfl ?_);refine u_nil ?_;refine wc (fun hc5=>?_) (fun hc5=>?_) <;> try simp only [Q0,Q1,Q2,Q3,Q4,Q5,Q6,Q7,Q8,ge_iff_le,gt_iff_lt] at hc5
 ·
  refine wr ?_;refine u_step (o_pcall (s44) rfl ?_);refine ua (u_nil (WP.ret ?_));refine ret_ok rfl ?_ (by omega) (fun t ht=>(hk2 t (by omega)));simp [sameE_refl]
 ·
  refine WP.skip ?_;refine hK3 _ ?_;refine wr ?_;refine ug th30 hb2 ?_;refine u_step (o_rdcall (s50 e ok hm) rfl fun q8 o8 nk8 hqa8 hqb8 hb8 hk8=>?_);have hb2_8:=(hk8 _ (by omega)).trans hb2;refine u_step (o_moveV (v:=.tup _) rfl ?_);refine ue ?_;refine ue ?_;refine u_step (o_assignV (v:=.row _) rfl ?_);refine ua ?_;refine u_nil ?_;refine WP.seq fun K9 hK9=>?_;refine wr ?_;refine u_step (o_pcall (s44) rfl ?_);refine uN ?_;refine u_nil ?_;refine wc (fun hc11=>?_) (fun hc11=>?_) <;> try simp only [Q0,Q1,Q2,Q3,Q4,Q5,Q6,Q7,Q8,ge_iff_le,gt_iff_lt] at hc11
  ·
   simp at hc11
  ·
   refine WP.skip ?_;refine hK9 _ ?_;refine WP.seq fun K12 hK12=>?_;refine wr ?_;refine ug th30 hb2_8 ?_;refine u_step (o_pcall (s24 e ok) rfl ?_);refine uN ?_;refine u_nil ?_;refine wc (fun hc14=>?_) (fun hc14=>?_) <;> try simp only [Q0,Q1,Q2,Q3,Q4,Q5,Q6,Q7,Q8,ge_iff_le,gt_iff_lt] at hc14
   ·
    rw [hm] at hc14;simp at hc14
   ·
    refine WP.skip (hK12 _ ?_);have hF0:∀ t,t < nk→o8 t=o t:=(fun t ht=>(hk8 t (by omega)).trans ((hk2 t (by omega))));refine WP.frzL [(1,.loc nk 0),(3,.d (.sl 1 (bytesD (codE e)))),(4,.d (.int .i64 0))] (nk+1) hb8 (by simp only [List.forall_mem_cons];exact ⟨rfl,if_pos rfl,rfl,by simp⟩) fun o9 hk9 _=>?_;have hB9:=(hk9 nk (by omega) (by omega)).trans hb2_8;have hF9:∀ t,t < nk→o9 t=o t:=fun t ht=>(hk9 t (by omega) (by omega)).trans (hF0 t ht);refine wr (um ?_);refine u_step (o_pcall (s51c e hlen hrt) rfl ?_);refine u_step (o_moveV (v:=.tup _) rfl ?_);refine ue (ue ?_);refine u_step (g_alloc th30 rfl fun o16 hb16 hk16=>?_);have hB9_16:=(hk16 _ (by omega)).trans hB9;refine u_step0 (g_sta rfl rfl th30 rfl hb16 (by first | (simp;done) | (simp [D.leaves,D.width,valCells];done) | decide) fun o17 hb17 hk17=>?_);have hB9_17:=(hk17 _ (by omega)).trans hB9_16;refine ua (u_nil (WP.seq fun K18 hK18=>?_));refine WP.dr1 [.q 0 0,.q 0 0,.q 0 0,.q 0 1,.q 0 1,.q 0 0,.w 0,.q 1 1,.q 1 1,.q 1 1,.q 1 1,.q 1 1,.q 1 1,.q 1 1,.q 1 1,.q 1 1,.q 1 1,.q 1 1,.q 1 1,.q 1 1] [6] ((nk8+1)+1) tabOk (by kernel_rfl) rfl (by kernel_rfl) (by kernel_rfl) ?_;apply Exists.intro;refine e_step rfl (o_move rfl ⟨rfl,rfl,rfl⟩) ?_;refine e_step rfl (o_bin_int rfl rfl (by decide) rfl ⟨rfl,rfl,rfl⟩) ?_;refine e_step rfl (o_move rfl ⟨rfl,rfl,rfl⟩) ?_;refine e_qT2 rfl rfl (GC.tT (by decide)) (o_move rfl ⟨rfl,rfl,rfl⟩) ?_ ?_;rotate_left;refine e_qT2 rfl rfl (GC.tT (by decide)) (o_cv_sb (b:=codE e) rfl th52 rfl th5 rfl th9 rfl ⟨rfl,rfl,rfl⟩) ?_ ?_;rotate_left;refine e_qT rfl (GC.tT (by decide)) (o_ld_agg rfl th30 rfl hB9_17 rfl rfl rfl ⟨rfl,rfl,rfl⟩) ?_;refine e_wT rfl rfl (GC.tT (by decide)) (w_rcall (s52 e ok hm) rfl ⟨rfl,rfl,rfl⟩) ?_;refine e_qT rfl (GC.tT (by decide)) (o_cv_sr (b:=codE e) rfl (upd_same _ _ _) th52 rfl th5 rfl th9 rfl ⟨rfl,rfl,rfl⟩) ?_;refine e_qT rfl (GC.tT (by decide)) (o_bin_str rfl rfl rfl ⟨rfl,rfl,rfl⟩) ?_;refine e_step rfl (o_pick_T rfl (by decide) rfl rfl ⟨rfl,rfl,rfl⟩) ?_;refine e_step rfl (o_move rfl ⟨rfl,rfl,rfl⟩) ?_;refine e_qT rfl (GC.tT (by simp)) (o_move rfl ⟨rfl,rfl,rfl⟩) ?_;refine e_qT rfl (GC.tT (by simp)) (o_bin_int rfl rfl (by decide) rfl ⟨rfl,rfl,rfl⟩) ?_;refine e_step rfl (o_pick_T rfl (by simp) rfl rfl ⟨rfl,rfl,rfl⟩) ?_;refine e_step rfl (o_move rfl ⟨rfl,rfl,rfl⟩) ?_;refine e_qT rfl (GC.tT (by simp)) (o_ld_agg rfl th30 rfl ((upd_ne _ _ (by omega)).trans hb17) rfl rfl rfl ⟨rfl,rfl,rfl⟩) ?_;refine e_qT rfl (GC.tT (by simp)) (o_ld_agg rfl th30 rfl ((upd_ne _ _ (by omega)).trans hB9_17) rfl rfl rfl ⟨rfl,rfl,rfl⟩) ?_;refine e_qT rfl (GC.tT (by simp)) (o_pcall (s46 e e) rfl ⟨rfl,rfl,rfl⟩) ?_;refine e_step rfl (o_pick_T rfl (by simp) rfl rfl ⟨rfl,rfl,rfl⟩) ?_;refine e_step rfl (o_assign rfl ⟨rfl,rfl,rfl⟩) ?_;refine e_nil rfl fun o20 ho20=>?_;have hbb0_20:=(ho20 _).trans ((upd_ne _ _ (by omega)).trans hB9_17);have hbb16_20:=(ho20 _).trans ((upd_ne _ _ (by omega)).trans hb17);have hbq19_20:=(ho20 _).trans (upd_same _ _ _);have hk20:∀ t,t < nk→o20 t=o17 t:=fun t ht=>(ho20 t).trans (upd_ne _ _ (by omega))
    ·
     refine hK18 _ (WP.ret ?_);refine ret_ok rfl ?_ (by omega) (fun t ht=>(hk20 t (by omega)).trans ((hk17 t (by omega)).trans ((hk16 t (by omega)).trans ((hF9 t (by omega))))));simp [sameE_refl]
    exact o_move rfl ⟨rfl,rfl,rfl⟩;exact o_cv_sb (b:=codE e) rfl th52 rfl th5 rfl th9 rfl ⟨rfl,rfl,rfl⟩
theorem pow7 (i:Nat):2 ^ (7 * (i+1))=128 * 2 ^ (7 * i):=by
 rw [show 7 * (i+1)=7 * i+7 by omega,Nat.pow_add,Nat.mul_comm]
theorem gR_grp (r:List UInt8):∀ (f:Nat) (b:List UInt8) (i u m:Nat),f=10 - i→b.drop i=grp m++r→m * 2 ^ (7 * i) < 18446744073709551616→(0 < i→0 < m)→gR f b i u=some (u+m * 2 ^ (7 * i),i+(grp m).length)
 | 0,b,i,u,m,hf,hb,hm,h0=>by
  have h1:2 ^ (7 * 10)≤2 ^ (7 * i):=Nat.pow_le_pow_right (by decide) (by omega);have h2:=h0 (by omega);have h3:2 ^ (7 * i)≤m * 2 ^ (7 * i):=Nat.le_mul_of_pos_left _ h2;omega
 | f+1,b,i,u,m,hf,hb,hm,h0=>by
  have hi:i < 10:=by omega
  by_cases hl:m < 128
  ·rw [grp_lt hl] at hb ⊢;have hg:b[i]?=some (UInt8.ofNat m):=by
    have:=congrArg (fun l=>l[0]?) hb;simpa [List.getElem?_drop] using this
   have hc:(UInt8.ofNat m).toNat=m:=by simp;omega
   simp only [gR,hg,hc];rw [if_neg,if_pos hl,Nat.mod_eq_of_lt hl]
   ·rfl
   ·rintro (⟨h9,h1⟩ | ⟨hp,hz⟩)
    ·subst h9;omega
    ·have:=h0 hp;omega
  ·rw [grp_ge hl] at hb ⊢;have hg:b[i]?=some (UInt8.ofNat (m % 128+128)):=by
    have:=congrArg (fun l=>l[0]?) hb;simpa [List.getElem?_drop] using this
   have hc:(UInt8.ofNat (m % 128+128)).toNat=m % 128+128:=by simp;omega
   have hd:b.drop (i+1)=grp (m / 128)++r:=by
    have:=congrArg (List.drop 1) hb;simpa [List.drop_drop] using this
   have hdm:=Nat.div_add_mod m 128;have hs:m % 128 * 2 ^ (7 * i)+m / 128 * 2 ^ (7 * (i+1))=m * 2 ^ (7 * i):=by
    rw [pow7,← Nat.mul_assoc,← Nat.add_mul];congr 1;omega
   have ih:=gR_grp r f b (i+1) (u+(m % 128+128) % 128 * 2 ^ (7 * i)) (m / 128) (by omega) hd (by omega) (fun _=>by omega);simp only [gR,hg,hc];rw [if_neg,if_neg (by omega),ih]
   ·have:(m % 128+128) % 128=m % 128:=by omega
    rw [this,Nat.add_assoc,hs,List.length_cons];congr 2;omega
   ·rintro (⟨h9,h1⟩ | ⟨hp,hz⟩)
    ·subst h9;omega
    ·omega
theorem rdG_grp {m:Nat} (h:m < 18446744073709551616) (r:List UInt8):rdG (grp m++r)=some (m,(grp m).length):=by
 have:=gR_grp r 10 (grp m++r) 0 0 m rfl rfl (by simpa using h) (by omega);simpa [rdG] using this
theorem gP_grp {m:Nat} (h:m < 18446744073709551616) (r:List UInt8):gP (grp m++r,false)=(m,(grp m).length):=gP_ok rfl (rdG_grp h r)
theorem grp_pos (m:Nat):0 < (grp m).length:=by
 by_cases h:m < 128
 ·rw [grp_lt h];simp
 ·rw [grp_ge h];simp
theorem take_grp (m:Nat) (r:List UInt8):takeS (grp m++r,false) (grp m).length true=(true,(r,false)):=by
 have:=grp_pos m;rw [takeS_ok (by rintro (h | h | h) <;> first | omega | cases h)];simp
theorem u64_nat {n:Int} (h1:0≤n) (h2:n≤4611686018427387904):(u64 n:Int)=n:=by unfold u64;omega
theorem cnt_code {n most:Int} (h1:0≤n) (h2:n≤4611686018427387904) (h3:n≤most) (r:List UInt8):cntS (grp (u64 n)++r,false) most=(n,(r,false)):=by
 have hu:=u64_nat h1 h2;have hr:rightS (u64 n) most=true:=by simp only [rightS,hu,wrap_i64 (m:=n) (by omega) (by omega)];simp;omega
 unfold cntS;rw [gP_grp (u64_lt n)];simp only [hr,take_grp,if_true,hu];rw [wrap_i64 (by omega) (by omega)]
theorem zag_zig {x:Int} (h1:-9223372036854775808≤x) (h2:x≤9223372036854775807):zagI (zigN x)=x:=by
 unfold zagI zigN u64;split <;> split <;> omega
theorem zig_lt2 (x:Int):zigN x < 18446744073709551616:=by unfold zigN;split <;> exact u64_lt _
theorem int_code {x:Int} (h1:-9223372036854775808≤x) (h2:x≤9223372036854775807) (r:List UInt8):intS (grp (zigN x)++r,false)=(x,(r,false)):=by
 unfold intS;rw [gP_grp (zig_lt2 x)];simp only [take_grp,if_true,zag_zig h1 h2]
theorem txt_code {t:Str} {most:Int} (h1:(t.length:Int)≤most) (h2:most≤4294967296) (r:List UInt8) (hr:(txtC t++r).length≤4611686018427387904):txtS (txtC t++r,false) most=(t,(r,false)):=by
 have hu:=u64_nat (n:=(t.length:Int)) (by omega) (by omega);have hu2:u64 (t.length:Int)=t.length:=by omega
 have hg:gP (txtC t++r,false)=(t.length,(grp (u64 t.length)).length):=by
  rw [txtC,List.append_assoc,gP_grp (u64_lt _),hu2]
 have hp:=grp_pos (u64 t.length);have hgl:=grp_l t.length;simp only [txtC,List.length_append] at hr;have hb:txtBad (txtC t++r,false) most=false:=by
  unfold txtBad;rw [hg];simp only [leftS,txtC,List.length_append];rw [if_neg (by decide)];rw [wrap_i64 (m:=((t.length:Nat):Int)) (by omega) (by omega)];rw [wrap_i64 (by omega) (by omega)];simp only [Bool.or_eq_false_iff,decide_eq_false_iff_not,beq_eq_false_iff_ne];refine ⟨⟨⟨?_,?_⟩,?_⟩,?_⟩ <;> omega
 rw [txtS_ok hb,hg];simp only [txtC,List.append_assoc];have e1:(grp (u64 t.length)++(t++r)).take ((grp (u64 t.length)).length+t.length)=grp (u64 t.length)++t:=by
  rw [← List.append_assoc,← List.length_append,List.take_left]
 have e2:(grp (u64 t.length)++(t++r)).drop ((grp (u64 t.length)).length+t.length)=r:=by
  rw [← List.append_assoc,← List.length_append,List.drop_left]
 rw [e1,e2,List.drop_left]
theorem byte_code {k:Int} (h1:0≤k) (h2:k≤255) (r:List UInt8):rdByte (b8 k :: r,false)=(k,(r,false)):=by
 have h:((b8 k).toNat:Int)=k:=by rw [← b8_wrap,wrap_u8];omega
 rw [rdByte_ok rfl (by simp)];simp [h]
theorem name_len {s:Str} (h:nameV s=true):s.length≤32:=by simp only [nameV,decide_eq_true_eq] at h;exact h.2.1
theorem rdIs_code {rd:SB→Val×SB} {doc:Bool} {r:List UInt8}:∀ (xs:List Val) (ns:List Str) (ys:List Val) (ms:List Str),(∀ x∈xs,∀ r:List UInt8,(codV x++r).length≤4611686018427387904→rd (codV x++r,false)=(x,(r,false)))→(doc=true→ns.length=xs.length)→ns.all nameV=true→(codVs doc xs ns++r).length≤4611686018427387904→
    rdIs rd doc xs.length (codVs doc xs ns++r,false) ys ms=(ys++xs,if doc=true then ms++ns else ms,(r,false))
  | [],ns,ys,ms,_,hn,_,_=>by
    cases doc with
    | false=>simp [rdIs,codVs]
    | true=>have:=List.length_eq_zero_iff.1 (hn rfl);subst this;simp [rdIs,codVs]
  | x :: xs,ns,ys,ms,hx,hn,ha,hl=>by
    cases hd:doc with
    | false=>
      subst hd;simp only [codVs,List.append_assoc,List.nil_append,if_neg (show ¬ (false=true) by decide)] at hl ⊢;rw [List.length_cons,rdIs_arr (by decide) Bool.false_ne_true,hx x (by simp) _ hl];have hl2:(codVs false xs ns.tail++r).length≤4611686018427387904:=by rw [List.length_append] at hl;omega
      have ha2:ns.tail.all nameV=true:=List.all_eq_true.2 fun y hy=>List.all_eq_true.1 ha y (List.mem_of_mem_tail hy);have ih:=rdIs_code (rd:=rd) (doc:=false) (r:=r) xs ns.tail (ys++[x]) ms (fun y hy=>hx y (by simp [hy])) (fun h=>by cases h) ha2 hl2;rw [ih];simp
    | true=>
      subst hd;cases ns with
      | nil=>have:=hn rfl;simp at this
      | cons n ns=>
        simp only [List.all_cons,Bool.and_eq_true] at ha;simp only [codVs,List.headD_cons,List.tail_cons,List.append_assoc,if_true] at hl ⊢;have hl1:(codV x++(codVs true xs ns++r)).length≤4611686018427387904:=by rw [List.length_append] at hl;omega
        have hl2:(codVs true xs ns++r).length≤4611686018427387904:=by rw [List.length_append] at hl1;omega
        rw [List.length_cons,rdIs_doc rfl Bool.false_ne_true,txt_code (by have:=name_len ha.1;omega) (by decide) _ hl,hx x (by simp) _ hl1];have ih:=rdIs_code (rd:=rd) (doc:=true) (r:=r) xs ns (ys++[x]) (ms++[n]) (fun y hy=>hx y (by simp [hy])) (fun _=>by have:=hn rfl;simpa using this) ha.2 hl2;rw [ih];simp
theorem depth_get {xs:List Val}:∀ x∈xs,depthV x≤depthsV xs:=by
 induction xs with
 | nil=>simp
 | cons y xs ih=>
  intro x hx;simp only [depthsV];rcases List.mem_cons.1 hx with rfl | hx
  ·exact Nat.le_max_left _ _
  ·exact Nat.le_trans (ih x hx) (Nat.le_max_right _ _)
theorem sizes_get {xs:List Val}:∀ x∈xs,sizeV x≤sizesV xs:=by
 induction xs with
 | nil=>simp
 | cons y xs ih=>
  intro x hx;simp only [sizesV];rcases List.mem_cons.1 hx with rfl | hx
  ·omega
  ·have:=ih x hx;omega
theorem size_pos (v:Val):1≤sizeV v:=by
 obtain ⟨k,i,t,xs,ns⟩:=v;simp only [sizeV];repeat' split
 all_goals omega
theorem sizes_len:∀ xs:List Val,xs.length≤sizesV xs
 | []=>by simp
 | x :: xs=>by have:=sizes_len xs;have:=size_pos x;simp only [sizesV,List.length_cons];omega
theorem rdV_code:∀ (d:Nat) (v:Val) (r:List UInt8),mayV v=true→rngV v→depthV v≤d→sizeV v≤4096→(codV v++r).length≤4611686018427387904→rdV d (codV v++r,false)=(v,(r,false))
 | 0,.mk k i t xs ns,r,_,_,hd,_,_=>by simp only [depthV] at hd;omega
 | d+1,.mk k i t xs ns,r,hm,hg,hd,hs,hl=>by
  have hm0:=hm;simp only [mayV,Bool.and_eq_true] at hm;obtain ⟨⟨hxs,hns⟩,hk⟩:=hm;simp only [depthV] at hd;by_cases h1:k=1
  ·simp only [kindOk,if_pos h1,Bool.and_eq_true,decide_eq_true_eq] at hk;obtain ⟨⟨⟨rfl,rfl⟩,h3⟩,h4⟩:=hk;obtain rfl:=List.length_eq_zero_iff.1 h3;obtain rfl:=List.length_eq_zero_iff.1 h4;simp only [codV,if_pos h1,List.cons_append,List.nil_append,rdV];rw [byte_code (by omega) (by omega)];simp only [if_pos h1]
  by_cases h2:k=2
  ·simp only [kindOk,if_neg h1,if_pos h2,Bool.and_eq_true,decide_eq_true_eq] at hk;obtain ⟨⟨⟨⟨hi0,hi1⟩,rfl⟩,h3⟩,h4⟩:=hk;obtain rfl:=List.length_eq_zero_iff.1 h3;obtain rfl:=List.length_eq_zero_iff.1 h4;simp only [codV,if_neg h1,if_pos h2,List.cons_append,List.nil_append,rdV];rw [byte_code (by omega) (by omega)];simp only [if_neg h1,if_pos h2];rw [byte_code (by omega) (by omega)]
  by_cases h3:k=3
  ·simp only [kindOk,if_neg h1,if_neg h2,if_pos h3,Bool.and_eq_true,decide_eq_true_eq] at hk;obtain ⟨⟨rfl,h5⟩,h4⟩:=hk;obtain rfl:=List.length_eq_zero_iff.1 h5;obtain rfl:=List.length_eq_zero_iff.1 h4;simp only [codV,if_neg h1,if_neg h2,if_pos h3,List.cons_append,rdV];rw [byte_code (by omega) (by omega)];simp only [if_neg h1,if_neg h2,if_pos h3];rw [int_code hg.1.1 hg.1.2]
  by_cases h4:k=4∨k=5
  ·simp only [kindOk,if_neg h1,if_neg h2,if_neg h3,if_pos h4,Bool.and_eq_true,decide_eq_true_eq] at hk;obtain ⟨⟨rfl,h5⟩,h6⟩:=hk;obtain rfl:=List.length_eq_zero_iff.1 h5;obtain rfl:=List.length_eq_zero_iff.1 h6;simp only [codV,if_neg h1,if_neg h2,if_neg h3,if_pos h4,List.cons_append,List.length_cons] at hl;simp only [codV,if_neg h1,if_neg h2,if_neg h3,if_pos h4,List.cons_append,rdV];simp only [sizeV,if_neg h1,if_neg h2,if_neg h3,if_pos h4,textN] at hs;rw [byte_code (by omega) (by omega)];simp only [if_neg h1,if_neg h2,if_neg h3,if_pos h4];rw [txt_code (by omega) (by decide) _ (by omega)]
  have h67:=may67 hm0 h1 h2 h3 h4;have hi:i=0∧t=[]∧(decide (k=7)=true→ns.length=xs.length)∧(¬ k=7→ns=[]):=by
   by_cases h6:k=6
   ·simp only [kindOk,if_neg h1,if_neg h2,if_neg h3,if_neg h4,if_pos h6,Bool.and_eq_true,decide_eq_true_eq] at hk;exact ⟨hk.1.1,hk.1.2,fun h=>by simp at h;omega,fun _=>List.length_eq_zero_iff.1 hk.2⟩
   ·have h7:k=7:=h67.resolve_left h6;simp only [kindOk,if_neg h1,if_neg h2,if_neg h3,if_neg h4,if_neg h6,if_pos h7,Bool.and_eq_true,decide_eq_true_eq] at hk;exact ⟨hk.1.1.1,hk.1.1.2,fun _=>hk.1.2,fun h=>absurd h7 h⟩
  obtain ⟨rfl,rfl,hn,hn0⟩:=hi;simp only [sizeV,if_neg h1,if_neg h2,if_neg h3,if_neg h4] at hs;have hsl:=sizes_len xs;simp only [codV,if_neg h1,if_neg h2,if_neg h3,if_neg h4,List.cons_append,List.length_cons,List.append_assoc] at hl;simp only [codV,if_neg h1,if_neg h2,if_neg h3,if_neg h4,List.cons_append,rdV,List.append_assoc];rw [byte_code (by omega) (by omega)];simp only [if_neg h1,if_neg h2,if_neg h3,if_neg h4,if_pos h67];rw [cnt_code (by omega) (by omega) (by omega)];have hlx:(codVs (decide (k=7)) xs ns++r).length≤4611686018427387904:=by rw [List.length_append] at hl;omega
  have hI:=rdIs_code (rd:=rdV d) (doc:=decide (k=7)) (r:=r) xs ns [] [] (fun x hx r' hr'=>rdV_code d x r' (List.all_eq_true.1 (maysV_all xs ▸ hxs) x hx) (rngVs_mem hg.2 x hx) (by have:=depth_get x hx;omega) (by have:=sizes_get x hx;omega) hr') hn hns hlx;simp only [Int.toNat_natCast];rw [hI];by_cases h7:k=7
  ·simp [h7]
  ·simp [h7,hn0 h7]
theorem rdAll_code {v:Val} {r:List UInt8} (h:checkV v=0) (hg:rngV v) (hl:(codV v++r).length≤4611686018427387904):rdAll (codV v++r,false)=(v,(r,false)):=by
 have hd:depthV v≤8:=by
  unfold checkV at h;split at h
  ·cases h
  ·split at h
   ·cases h
   ·omega
 have e:=rdV_code 8 v r (check_may h) hg hd (check_size h) hl;rw [rdAll_ok (by rw [e];rintro (h1 | h1);cases h1;exact h1 h),e]
theorem none_V0 {v:Val} (h:noneV v=true):v=.mk 0 0 [] [] []:=by
 obtain ⟨k,i,t,xs,ns⟩:=v;obtain ⟨h1,h2,h3,h4,h5⟩:=of_decide_eq_true h;simp only [Val.kind,Val.int,Val.text,Val.items,Val.names] at h1 h2 h3 h4 h5;subst h1 h2 h3 h4 h5;rfl
theorem rdTs_code {r:List UInt8}:∀ (p ms:List Str),p.all nameV=true→(codP p++r).length≤4611686018427387904→rdTs p.length (codP p++r,false) ms=(ms++p,(r,false))
 | [],ms,_,_=>by simp [rdTs,codP]
 | s :: p,ms,h,hl=>by
  simp only [List.all_cons,Bool.and_eq_true] at h;have hc:codP (s :: p)=txtC s++codP p:=by simp [codP]
  rw [hc,List.append_assoc] at hl ⊢;have hl2:(codP p++r).length≤4611686018427387904:=by rw [List.length_append] at hl;omega
  rw [List.length_cons,rdTs,txt_code (by have:=name_len h.1;omega) (by decide) _ hl,rdTs_code p _ h.2 hl2];simp
theorem rdDl_code {d:Dlt} {r:List UInt8} (hm:mayD d=true) (hok:okD d) (hl:(codD d++r).length≤4611686018427387904):rdDl (codD d++r,false)=(d,(r,false)):=by
 obtain ⟨hp,hp8,hv,hn⟩:=mayD_parts hm;obtain ⟨k,p,v,n⟩:=d;simp only at hp hp8 hv hn;have hk:k=1∨k=2∨k=3:=by
  simp only [mayD,Bool.and_eq_true] at hm;have:=hm.2;by_cases h1:k=1
  ·exact .inl h1
  by_cases h2:k=2
  ·exact .inr (.inl h2)
  by_cases h3:k=3
  ·exact .inr (.inr h3)
  simp [h1,h2,h3] at this
 have hl0:=hl;simp only [codD,codD1,List.take_length,List.cons_append,List.append_assoc,List.length_cons] at hl ⊢;have hl1:(codP p++(codDv ⟨k,p,v,n⟩++r)).length≤4611686018427387904:=by rw [List.length_append] at hl;omega
 have hl2:(codDv ⟨k,p,v,n⟩++r).length≤4611686018427387904:=by rw [List.length_append] at hl1;omega
 unfold rdDl;rw [byte_code (by omega) (by omega)];simp only;rw [cnt_code (by omega) (by omega) (by omega)];simp only [Int.toNat_natCast];rw [rdTs_code p [] hp hl1];simp only [List.nil_append];have key:rdD3 rdAll k p (codDv ⟨k,p,v,n⟩++r,false)=(⟨k,p,v,n⟩,(r,false)):=by
  simp only [mayD,Bool.and_eq_true] at hm;have h2:=hm.2;unfold rdD3;rcases hk with rfl | rfl | rfl
  ·simp only [if_true,Bool.and_eq_true,decide_eq_true_eq] at h2;obtain ⟨hc,rfl⟩:=h2;simp only [codDv,if_true] at hl2 ⊢;rw [rdAll_code hc hok.1 hl2]
  ·simp at h2;obtain ⟨hc,rfl⟩:=h2;rw [none_V0 hc];simp [codDv]
  ·simp at h2;obtain ⟨⟨hc,h0⟩,h9⟩:=h2;rw [none_V0 hc];simp only [codDv,if_neg (show ¬ (3:Int)=1 by decide),if_true];rw [cnt_code h0 (by omega) (by omega)]
 rw [key,spoil_yes hm]
theorem rdDls_code {r:List UInt8}:∀ (l ms:List Dlt),(∀ d∈l,mayD d=true)→(∀ d∈l,okD d)→(l.flatMap codD++r).length≤4611686018427387904→rdDls l.length (l.flatMap codD++r,false) ms=(ms++l,(r,false))
 | [],ms,_,_,_=>by simp [rdDls]
 | d :: l,ms,hm,hok,hl=>by
  rw [List.flatMap_cons,List.append_assoc] at hl ⊢;have hl2:(l.flatMap codD++r).length≤4611686018427387904:=by rw [List.length_append] at hl;omega
  rw [List.length_cons,rdDls,rdDl_code (hm d (by simp)) (hok d (by simp)) hl];simp only [if_neg Bool.false_ne_true];rw [rdDls_code l _ (fun x hx=>hm x (by simp [hx])) (fun x hx=>hok x (by simp [hx])) hl2];simp
theorem rdDsP_code {l:List Dlt} {r:List UInt8} (hc:checkD l=0) (hok:∀ d∈l,okD d) (hl:(codDs l++r).length≤4611686018427387904):rdDsP (codDs l++r,false)=(l,(r,false)):=by
 have hn:=checkD_len hc;rw [codDs,List.append_assoc] at hl ⊢;have hl2:(l.flatMap codD++r).length≤4611686018427387904:=by rw [List.length_append] at hl;omega
 unfold rdDsP;rw [cnt_code (by omega) (by omega) (by omega)];simp only [Int.toNat_natCast];rw [rdDls_code l [] (checkD_all hc) hok hl2,rdDq_ok (by simp)];simp
theorem optS_code {α:Type} {b:Bool} {z x:α} {rd:SB→α×SB} {c r:List UInt8} (h1:b=true→rd (c++r,false)=(x,(r,false))) (h2:¬ b=true→x=z):optS b z rd (optC b c++r,false)=(x,(r,false)):=by
 by_cases h:b=true
 ·rw [optS_yes h,optC,if_pos h,h1 h]
 ·rw [optS_no h,optC,if_neg h,h2 h,List.nil_append]
theorem rdEt_code {e:Etr} {r:List UInt8} (hm:mayE e=true) (ok:OkE e) (hl:(codE e++r).length≤4611686018427387904):rdEt rdAll rdDsP (codE e++r,false)=(e,(r,false)):=by
 have hE:=mayE_ok hm;have hk:=hE.k;have ht:=hE.t;have hs:=hE.s;have hn:=hE.n;let r5:=r;let r4:=optC (hsB e.kind 16) (codDs e.deltas)++r;let r3:=optC (hsB e.kind 8) (codV e.doc)++r4;let r2:=optC (hsB e.kind 4) (codV e.id)++r3;let r1:=optC (hsB e.kind 2) (txtC e.to)++r2;let r0:=optC (hsB e.kind 1) (txtC e.coll)++r1;have hcod:codE e++r=grp (u64 e.term)++(b8 e.kind :: (grp (u64 e.session)++(grp (u64 e.number)++r0))):=by
  simp only [codE,codE4,codE3,codE2,codE1,codE0,List.append_assoc,List.cons_append,r0,r1,r2,r3,r4]
 rw [hcod] at hl ⊢;simp only [List.length_append,List.length_cons] at hl;have l0:r0.length≤4611686018427387904:=by omega
 have l1:r1.length≤4611686018427387904:=by simp only [r0,List.length_append] at l0;omega
 have l2:r2.length≤4611686018427387904:=by simp only [r1,List.length_append] at l1;omega
 have l3:r3.length≤4611686018427387904:=by simp only [r2,List.length_append] at l2;omega
 have l4:r4.length≤4611686018427387904:=by simp only [r3,List.length_append] at l3;omega
 generalize hsdef:((grp (u64 e.term)++(b8 e.kind :: (grp (u64 e.session)++(grp (u64 e.number)++r0))),false):SB)=s;have eT1:eT s=(e.term,(b8 e.kind :: (grp (u64 e.session)++(grp (u64 e.number)++r0)),false)):=by
  rw [← hsdef,eT,cnt_code ht.1 (by omega) (by omega)]
 have eK1:eK s=(e.kind,(grp (u64 e.session)++(grp (u64 e.number)++r0),false)):=by
  rw [eK,eT1];exact byte_code (by omega) (by omega) _
 have eS1:eS s=(e.session,(grp (u64 e.number)++r0,false)):=by
  rw [eS,eK1];exact cnt_code hs.1 (by omega) (by omega) _
 have eN1:eN s=(e.number,(r0,false)):=by
  rw [eN,eS1];exact cnt_code hn.1 (by omega) (by omega) _
 have eC1:eC s=(e.coll,(r1,false)):=by
  rw [eC,eN1,eK1];refine optS_code (fun hb=>?_) hE.c.2;refine txt_code (by have:=hE.c.1 hb;omega) (by decide) _ ?_;have:=l0;simp only [r0,optC,if_pos hb] at this;exact this
 have eO1:eO s=(e.to,(r2,false)):=by
  rw [eO,eC1,eK1];refine optS_code (fun hb=>?_) hE.o.2;refine txt_code (by have:=hE.o.1 hb;omega) (by decide) _ ?_;have:=l1;simp only [r1,optC,if_pos hb] at this;exact this
 have eI1:eI rdAll s=(e.id,(r3,false)):=by
  rw [eI,eO1,eK1];refine optS_code (fun hb=>?_) fun hb=>none_V0 (hE.i.2 hb);refine rdAll_code (hE.i.1 hb) ok.ri ?_;have:=l2;simp only [r2,optC,if_pos hb] at this;exact this
 have eD1:eD rdAll s=(e.doc,(r4,false)):=by
  rw [eD,eI1,eK1];refine optS_code (fun hb=>?_) fun hb=>none_V0 (hE.d.2 hb);refine rdAll_code (hE.d.1 hb) ok.rd ?_;have:=l3;simp only [r3,optC,if_pos hb] at this;exact this
 have eL1:eL rdAll rdDsP s=(e.deltas,(r,false)):=by
  rw [eL,eD1,eK1];refine optS_code (fun hb=>?_) hE.l.2;refine rdDsP_code (hE.l.1 hb) (ok.ds (checkD_len (hE.l.1 hb))) ?_;have:=l4;simp only [r4,optC,if_pos hb] at this;exact this
 have eA1:eAll rdAll rdDsP s=e:=by
  simp only [eAll,eT1,eK1,eC1,eO1,eI1,eD1,eL1,eS1,eN1]
 rw [rdEt_ok (by rw [eL1,eA1];rintro (h | h);cases h;exact h hm),eA1,eL1]
theorem codE_len {e:Etr} (h:EOk e):(codE e).length≤400000:=by
 have:=codE4_len h;have:=opt_len (b:=hsB e.kind 16) (s:=codDs e.deltas) (n:=300000) fun hb=>codDs_len (h.l.1 hb);rw [codE,List.length_append];omega
theorem rdEt_all {e:Etr} (hm:mayE e=true) (ok:OkE e):rdEt rdAll rdDsP (codE e,false)=(e,([],false)):=by
 have h:=rdEt_code (r:=[]) hm ok (by have:=codE_len (mayE_ok hm);simp;omega)
 rwa [List.append_nil] at h
theorem s10 (e:Etr) (ok:OkE e) (okd:∀ d∈e.deltas,szV d.value≤1099511627776):PSpec Tryz.prog 10 [.d (encE e)] (.d (.bool true)):=by
 by_cases hm:mayE e=true
 ·exact s10y e ok okd hm (by have:=codE_len (mayE_ok hm);omega) (rdEt_all hm ok)
 ·exact s10n e ok okd (by simpa using hm)
end Go.Proofs.YtpkcbdhjnnnkbaaGreat.Abs

namespace Go.Proofs.YtpkcbdhjnnnkbaaGreat.lawEntryCodes
open Go Abs
open Go.ChangeShapes Go.WideShapes Go.ChangeAt Go.RowKit
theorem own:ownKnob Tryz.prog.godebug=none:=by kernel_rfl
theorem laid:laidOutB Tryz.prog=true:=by kernel_rfl
theorem contract (H:Type) (enc:TypeId×Value→H) (W:World) (base:Nat) (args:Array Value) (ds gs:List (DataW H)) (before:List MemPlace)
    (hval:∀ (j:Nat) t v,Tryz.f10.params[j]?=some t→args[j]?=some v→Value.okWide Tryz.prog W .any base t v)
    (hW:DataW.Whole enc Tryz.prog Tryz.f10.params.toList Rows.entryCodesSpec.vars false W args.toList ds gs before) (hk:Rows.uptoSmall H (ds++gs)=true) :
    Calls Tryz.prog 10 args W fun e W'=>∃ v,e=.returned v∧Rows.entryCodesSpec.post enc Tryz.prog Tryz.f10 false true false false W args v W':=by
  have hW':=hW;obtain ⟨p,q,hA0,hV,rfl,hfz,hnd⟩:=hW;have hA:DataW.TrodAll enc Tryz.prog W 0 (fun _=>true) true Tryz.f10.params.toList args.toList ds p:=hA0;rw [Tryz.params10] at hA hval;obtain ⟨v0,vs0,d0,ds0,p0,q0,hargs,rfl,rfl,h0,r0⟩:=trodAll_cons hA;obtain ⟨rfl,rfl,rfl⟩:=trodAll_nil r0;obtain rfl:args=#[v0]:=by cases args;simp_all
  obtain ⟨rfl,rfl⟩:=trodVars_none hV;clear hA0;simp only [List.append_nil] at hW' hk;have hb:Rows.uptoBulkAll [d0]≤1048576:=of_decide_eq_true hk;simp only [Rows.uptoBulkAll] at hb;obtain ⟨n0,t0⟩:=h0;obtain ⟨e,c0,a0⟩:=open_etr t0;have x0:=rdv_struct (hval 0 30 v0 rfl rfl) (tabOk _ _ th30) rfl c0 rfl rfl;have ok:OkE e:=okE_of (d:=d0) a0 (by omega);have okd:=okEd_of (d:=d0) a0 (by omega);refine (calls_of_spec (vs:=[v0]) (ds:=[encE e]) Tryz.func10 (by kernel_rfl) (by kernel_rfl) (s10 e ok okd) ⟨rfl,fun i x v hx hv=>?_⟩).mono fun e W' ⟨he,hg⟩=>?_
  · match i,hx,hv with
    | 0,hx,hv=>simp at hx hv;subst hx;subst hv;exact x0
    | i+1,hx,hv=>simp at hx
  subst he;exact ⟨_,rfl,post_of_below (pa:=p0++[]) (pv:=[]) hW' (fun _ _ _=>trodAll_cons_mk (shut_bool Tryz.underlying4 _) trodAll_mk0) (fun sp hs=>trodAll_stays laid hg (by kernel_rfl) hA (fun x hx=>hs x (by simpa using hx)) (fun x hx=>hW'.lt x (by simpa using hx))) (fun _ _=>rfl) (by simp) hg (ok_one (by kernel_rfl) rfl (okWide_bool_mk Tryz.underlying4 _))⟩
set_option maxRecDepth 100000 in
theorem lifted (os:Os) (started:os.Started) (H:Type) (enc:TypeId×Value→H) (F:Stop.Interp) :
    ReturnsInHanded {} Tryz.checked os 10 .any ((Rows.OpenSpec.upto Rows.entryCodesSpec).pre6 enc Tryz.prog Tryz.f10 Rows.entryCodesUptoRow.domain false) (((Rows.OpenSpec.upto Rows.entryCodesSpec).at F).post enc Tryz.prog Tryz.f10 false true false false):=by
  refine returnsInHanded_of_cond (C:=Tryz.checked) (s:=Rows.OpenSpec.upto Rows.entryCodesSpec) (k:=Rows.uptoSmall) rfl own started (by kernel_rfl) Tryz.func10
    (OpenSpec.witness (enc:=enc) (C:=Tryz.checked) (s:=Rows.OpenSpec.upto Rows.entryCodesSpec) (k:=Rows.uptoSmall) rfl false ⟨#[],#[.agg #[.int .i64 0,.int .i64 0,.string ⟨#[]⟩,.string ⟨#[]⟩,.int .i64 0,.int .i64 0,.string ⟨#[]⟩,.slice none 0 0,.slice none 0 0,.int .i64 0,.int .i64 0,.string ⟨#[]⟩,.slice none 0 0,.slice none 0 0,.slice none 0 0,.int .i64 0,.int .i64 0]],[]⟩ 8 (by kernel_rfl) (by kernel_rfl) (by kernel_rfl)
      (x:=([.agg [.lit (.int .i64 0),.lit (.int .i64 0),.lit (.string []),.lit (.string []),.agg [.lit (.int .i64 0),.lit (.int .i64 0),.lit (.string []),.nil,.nil],.agg [.lit (.int .i64 0),.lit (.int .i64 0),.lit (.string []),.nil,.nil],.nil,.lit (.int .i64 0),.lit (.int .i64 0)]],[],[])) (by kernel_rfl) rfl (by kernel_rfl)) ?_
  intro W base args ds gs before hval hW _ hk _;exact contract H enc W base args ds gs before hval hW hk
theorem j0:(fun (P:Program) (f:FuncId) (fn:Func) (s:ChangeSpec) (c:OpenClaim)=>(c.wf (OpenSpec.ofChange s):Bool)) Tryz.checked.prog 10 Tryz.f10 (Rows.OpenSpec.upto Rows.entryCodesSpec).bare Rows.entryCodesUptoRow=true:=by kernel_rfl
theorem j1:(fun (P:Program) (f:FuncId) (fn:Func) (s:ChangeSpec) (c:OpenClaim)=>(laidOutB P:Bool)) Tryz.checked.prog 10 Tryz.f10 (Rows.OpenSpec.upto Rows.entryCodesSpec).bare Rows.entryCodesUptoRow=true:=by kernel_rfl
theorem j2:(fun (P:Program) (f:FuncId) (fn:Func) (s:ChangeSpec) (c:OpenClaim)=>(mapsRowed P:Bool)) Tryz.checked.prog 10 Tryz.f10 (Rows.OpenSpec.upto Rows.entryCodesSpec).bare Rows.entryCodesUptoRow=true:=by kernel_rfl
theorem j3:(fun (P:Program) (f:FuncId) (fn:Func) (s:ChangeSpec) (c:OpenClaim)=>(fn.params.all (P.readableRec ·):Bool)) Tryz.checked.prog 10 Tryz.f10 (Rows.OpenSpec.upto Rows.entryCodesSpec).bare Rows.entryCodesUptoRow=true:=by kernel_rfl
theorem j4:(fun (P:Program) (f:FuncId) (fn:Func) (s:ChangeSpec) (c:OpenClaim)=>(namedTie P c.named s.vars:Bool)) Tryz.checked.prog 10 Tryz.f10 (Rows.OpenSpec.upto Rows.entryCodesSpec).bare Rows.entryCodesUptoRow=true:=by kernel_rfl
theorem j5:(fun (P:Program) (f:FuncId) (fn:Func) (s:ChangeSpec) (c:OpenClaim)=>((c.stops == []):Bool)) Tryz.checked.prog 10 Tryz.f10 (Rows.OpenSpec.upto Rows.entryCodesSpec).bare Rows.entryCodesUptoRow=true:=by kernel_rfl
theorem j6:(fun (P:Program) (f:FuncId) (fn:Func) (s:ChangeSpec) (c:OpenClaim)=>((P.stops == []):Bool)) Tryz.checked.prog 10 Tryz.f10 (Rows.OpenSpec.upto Rows.entryCodesSpec).bare Rows.entryCodesUptoRow=true:=by kernel_rfl
theorem j7:(fun (P:Program) (f:FuncId) (fn:Func) (s:ChangeSpec) (c:OpenClaim)=>((c.knobs == []):Bool)) Tryz.checked.prog 10 Tryz.f10 (Rows.OpenSpec.upto Rows.entryCodesSpec).bare Rows.entryCodesUptoRow=true:=by kernel_rfl
theorem j8:(fun (P:Program) (f:FuncId) (fn:Func) (s:ChangeSpec) (c:OpenClaim)=>((P.stopKnobs == []):Bool)) Tryz.checked.prog 10 Tryz.f10 (Rows.OpenSpec.upto Rows.entryCodesSpec).bare Rows.entryCodesUptoRow=true:=by kernel_rfl
theorem j9:(fun (P:Program) (f:FuncId) (fn:Func) (s:ChangeSpec) (c:OpenClaim)=>((c.inPlace == P.inPlace f):Bool)) Tryz.checked.prog 10 Tryz.f10 (Rows.OpenSpec.upto Rows.entryCodesSpec).bare Rows.entryCodesUptoRow=true:=by kernel_rfl
theorem j10:(fun (P:Program) (f:FuncId) (fn:Func) (s:ChangeSpec) (c:OpenClaim)=>((c.unfollowed == P.unfollowed f):Bool)) Tryz.checked.prog 10 Tryz.f10 (Rows.OpenSpec.upto Rows.entryCodesSpec).bare Rows.entryCodesUptoRow=true:=by kernel_rfl
theorem j11:(fun (P:Program) (f:FuncId) (fn:Func) (s:ChangeSpec) (c:OpenClaim)=>((c.recurses == P.recurses f):Bool)) Tryz.checked.prog 10 Tryz.f10 (Rows.OpenSpec.upto Rows.entryCodesSpec).bare Rows.entryCodesUptoRow=true:=by kernel_rfl
theorem j12:(fun (P:Program) (f:FuncId) (fn:Func) (s:ChangeSpec) (c:OpenClaim)=>((c.named == P.varsNamed f):Bool)) Tryz.checked.prog 10 Tryz.f10 (Rows.OpenSpec.upto Rows.entryCodesSpec).bare Rows.entryCodesUptoRow=true:=by kernel_rfl
theorem j13:(fun (P:Program) (f:FuncId) (fn:Func) (s:ChangeSpec) (c:OpenClaim)=>((c.maps == (fn.params.toList++s.plain.varTypes P).any (P.mapsRec ·)):Bool)) Tryz.checked.prog 10 Tryz.f10 (Rows.OpenSpec.upto Rows.entryCodesSpec).bare Rows.entryCodesUptoRow=true:=by kernel_rfl
theorem j14:(fun (P:Program) (f:FuncId) (fn:Func) (s:ChangeSpec) (c:OpenClaim)=>((c.ifaces == (fn.params.toList++s.plain.varTypes P).any (P.ifacesRec ·)):Bool)) Tryz.checked.prog 10 Tryz.f10 (Rows.OpenSpec.upto Rows.entryCodesSpec).bare Rows.entryCodesUptoRow=true:=by kernel_rfl
theorem j15:(fun (P:Program) (f:FuncId) (fn:Func) (s:ChangeSpec) (c:OpenClaim)=>((c.mapsOut == P.mapsAmong fn.resultTypes.toList):Bool)) Tryz.checked.prog 10 Tryz.f10 (Rows.OpenSpec.upto Rows.entryCodesSpec).bare Rows.entryCodesUptoRow=true:=by kernel_rfl
theorem j16:(fun (P:Program) (f:FuncId) (fn:Func) (s:ChangeSpec) (c:OpenClaim)=>((c.loops == (fn.params.toList++s.plain.varTypes P).any (P.loopsFrom ·)):Bool)) Tryz.checked.prog 10 Tryz.f10 (Rows.OpenSpec.upto Rows.entryCodesSpec).bare Rows.entryCodesUptoRow=true:=by kernel_rfl
theorem j17:(fun (P:Program) (f:FuncId) (fn:Func) (s:ChangeSpec) (c:OpenClaim)=>((c.wideKeys == (fn.params.toList++s.plain.varTypes P++fn.resultTypes.toList).any (P.wideKeysFrom ·)):Bool)) Tryz.checked.prog 10 Tryz.f10 (Rows.OpenSpec.upto Rows.entryCodesSpec).bare Rows.entryCodesUptoRow=true:=by kernel_rfl
theorem j18:(fun (P:Program) (f:FuncId) (fn:Func) (s:ChangeSpec) (c:OpenClaim)=>(s.vars.all (P.varReadable ·):Bool)) Tryz.checked.prog 10 Tryz.f10 (Rows.OpenSpec.upto Rows.entryCodesSpec).bare Rows.entryCodesUptoRow=true:=by kernel_rfl
theorem j19:(fun (P:Program) (f:FuncId) (fn:Func) (s:ChangeSpec) (c:OpenClaim)=>(fn.resultTypes.all (fun t=>P.readableRec t && decide (t < P.types.size)):Bool)) Tryz.checked.prog 10 Tryz.f10 (Rows.OpenSpec.upto Rows.entryCodesSpec).bare Rows.entryCodesUptoRow=true:=by kernel_rfl
theorem j20:(fun (P:Program) (f:FuncId) (fn:Func) (s:ChangeSpec) (c:OpenClaim)=>((c.ifacesOut == fn.resultTypes.toList.any (P.ifacesRec ·)):Bool)) Tryz.checked.prog 10 Tryz.f10 (Rows.OpenSpec.upto Rows.entryCodesSpec).bare Rows.entryCodesUptoRow=true:=by kernel_rfl
theorem j21:(fun (P:Program) (f:FuncId) (fn:Func) (s:ChangeSpec) (c:OpenClaim)=>((c.loopsOut == fn.resultTypes.toList.any (P.loopsFrom ·)):Bool)) Tryz.checked.prog 10 Tryz.f10 (Rows.OpenSpec.upto Rows.entryCodesSpec).bare Rows.entryCodesUptoRow=true:=by kernel_rfl
theorem j22:(fun (P:Program) (f:FuncId) (fn:Func) (s:ChangeSpec) (c:OpenClaim)=>((c.plainKeys == P.plainKeys):Bool)) Tryz.checked.prog 10 Tryz.f10 (Rows.OpenSpec.upto Rows.entryCodesSpec).bare Rows.entryCodesUptoRow=true:=by kernel_rfl
theorem j23:(fun (P:Program) (f:FuncId) (fn:Func) (s:ChangeSpec) (c:OpenClaim)=>(c.shortTexts.isNone:Bool)) Tryz.checked.prog 10 Tryz.f10 (Rows.OpenSpec.upto Rows.entryCodesSpec).bare Rows.entryCodesUptoRow=true:=by kernel_rfl
theorem j24:(fun (P:Program) (f:FuncId) (fn:Func) (s:ChangeSpec) (c:OpenClaim)=>(P.stopsHeard:Bool)) Tryz.checked.prog 10 Tryz.f10 (Rows.OpenSpec.upto Rows.entryCodesSpec).bare Rows.entryCodesUptoRow=true:=by kernel_rfl
theorem j25:(fun (P:Program) (f:FuncId) (fn:Func) (s:ChangeSpec) (c:OpenClaim)=>(P.mayEnter:Bool)) Tryz.checked.prog 10 Tryz.f10 (Rows.OpenSpec.upto Rows.entryCodesSpec).bare Rows.entryCodesUptoRow=true:=by kernel_rfl
theorem j26:(fun (P:Program) (f:FuncId) (fn:Func) (s:ChangeSpec) (c:OpenClaim)=>((c.lifted == P.liftsFinal):Bool)) Tryz.checked.prog 10 Tryz.f10 (Rows.OpenSpec.upto Rows.entryCodesSpec).bare Rows.entryCodesUptoRow=true:=by kernel_rfl
theorem j27:(fun (P:Program) (f:FuncId) (fn:Func) (s:ChangeSpec) (c:OpenClaim)=>((P.make == some c.make):Bool)) Tryz.checked.prog 10 Tryz.f10 (Rows.OpenSpec.upto Rows.entryCodesSpec).bare Rows.entryCodesUptoRow=true:=by kernel_rfl
theorem j28:(fun (P:Program) (f:FuncId) (fn:Func) (s:ChangeSpec) (c:OpenClaim)=>((c.kinds == (if c.domain.isEmpty then [] else fn.params.toList.map fun t=>match P.underlying t with | some (.int k)=>some k | _=>none)):Bool)) Tryz.checked.prog 10 Tryz.f10 (Rows.OpenSpec.upto Rows.entryCodesSpec).bare Rows.entryCodesUptoRow=true:=by kernel_rfl
theorem j29:(fun (P:Program) (f:FuncId) (fn:Func) (s:ChangeSpec) (c:OpenClaim)=>((c.pinned == c.pinnedBy):Bool)) Tryz.checked.prog 10 Tryz.f10 (Rows.OpenSpec.upto Rows.entryCodesSpec).bare Rows.entryCodesUptoRow=true:=by kernel_rfl
theorem j30:(fun (P:Program) (f:FuncId) (fn:Func) (s:ChangeSpec) (c:OpenClaim)=>((c.veiled == (fn.params.toList++s.plain.varTypes P++fn.resultTypes.toList).any (P.veiledRec ·)):Bool)) Tryz.checked.prog 10 Tryz.f10 (Rows.OpenSpec.upto Rows.entryCodesSpec).bare Rows.entryCodesUptoRow=true:=by kernel_rfl
theorem j31:(fun (P:Program) (f:FuncId) (fn:Func) (s:ChangeSpec) (c:OpenClaim)=>(c.veiledFits P fn.params.toList (fn.params.toList++s.plain.varTypes P++fn.resultTypes.toList):Bool)) Tryz.checked.prog 10 Tryz.f10 (Rows.OpenSpec.upto Rows.entryCodesSpec).bare Rows.entryCodesUptoRow=true:=by kernel_rfl
theorem jand (a b:Bool) (h1:a=true) (h2:b=true):(a && b)=true:=by rw [h1,h2];rfl
theorem closed:joinedFacts Tryz.checked.prog 10 Tryz.f10 (Rows.OpenSpec.upto Rows.entryCodesSpec).bare Rows.entryCodesUptoRow=true:=jand _ _ (jand _ _ (jand _ _ (jand _ _ (jand _ _ (jand _ _ (jand _ _ (jand _ _ (jand _ _ (jand _ _ (jand _ _ (jand _ _ (jand _ _ (jand _ _ (jand _ _ (jand _ _ (jand _ _ (jand _ _ (jand _ _ (jand _ _ (jand _ _ (jand _ _ (jand _ _ (jand _ _ (jand _ _ (jand _ _ (jand _ _ (jand _ _ (jand _ _ (jand _ _ (jand _ _ j0 j1) j2) j3) j4) j5) j6) j7) j8) j9) j10) j11) j12) j13) j14) j15) j16) j17) j18) j19) j20) j21) j22) j23) j24) j25) j26) j27) j28) j29) j30) j31
theorem over:Rows.entryCodesUptoRow.holds Tryz.pinned (Rows.OpenSpec.upto Rows.entryCodesSpec):=
 OpenClaim.holds_of_cond 10 Tryz.f10 rfl rfl rfl rfl rfl rfl rfl ⟨rfl,rfl,rfl,rfl,rfl⟩ rfl rfl rfl rfl rfl (by kernel_rfl) Tryz.func10 closed
  (of_decide_eq_true (by kernel_rfl)) (by unfold Func.isWrapper;first | (rw [if_pos (by decide +kernel)];kernel_rfl) | (rw [if_neg (by decide +kernel)];exact ⟨rfl,rfl⟩))
  (fun os started H enc _ F=>lifted os started H enc F)
end Go.Proofs.YtpkcbdhjnnnkbaaGreat.lawEntryCodes
namespace Go.Proofs.YtpkcbdhjnnnkbaaGreat
theorem entryCodes_upto_holds:Rows.EntryCodesUptoSaid:=lawEntryCodes.over
end Go.Proofs.YtpkcbdhjnnnkbaaGreat
