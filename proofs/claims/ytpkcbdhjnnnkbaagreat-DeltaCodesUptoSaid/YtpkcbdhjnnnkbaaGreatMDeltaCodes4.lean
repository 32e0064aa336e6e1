/- Part 4 of the proof that DeltaCodes: called with any changes and any bytes that hold together at most 1048576 values and letters, the law answers true, and both read afterwards as they read before. -/
import Derived.Test.YtpkcbdhjnnnkbaaGreatMDeltaCodes3
import Derived.Test.YtpkcbdhjnnnkbaaGreatMDeltaCodes2
import Derived.LoopN
set_option linter.unusedSimpArgs false
set_option linter.unusedVariables false
set_option maxHeartbeats 1000000
set_option maxRecDepth 10000
namespace Go.Proofs.YtpkcbdhjnnnkbaaGreat.Abs
open Go
def idS:Str:=[95,105,100]
def idK:List Str:=[[95,105,100]]
noncomputable def mayDocV (v id:Val):Bool:=decide (v.kind=7∧checkV v=0∧getV v idK=some id)
theorem check_may {v:Val} (h:checkV v=0):mayV v=true:=by
 unfold checkV at h;split at h
 ·cases h
 ·rename_i hm;simpa using hm
theorem path_id:pathV idK=true:=by decide
theorem getP_id {v:Val} (h7:v.kind=7) (hc:checkV v=0):getP v idK=getV v idK:=by
 unfold getP;rw [if_pos ⟨h7,check_may hc,path_id⟩]
theorem mayDoc_l {v id:Val} (hi:mayV id=true):((getP v idK).isSome && decide (checkV v=0) && decide (compV ((getP v idK).getD zeroV) id=0))=mayDocV v id:=by
 rw [Bool.eq_iff_iff];simp only [Bool.and_eq_true,decide_eq_true_eq,mayDocV];constructor
 ·rintro ⟨⟨h1,h2⟩,h3⟩;have h7:v.kind=7:=by
   unfold getP at h1;split at h1
   ·rename_i h;exact h.1
   ·cases h1
  rw [getP_id h7 h2] at h1 h3;obtain ⟨x,hx⟩:=Option.isSome_iff_exists.1 h1;have hm:=get_may idK v x (check_may h2) hx;rw [hx] at h3;have:=comp_same hm hi;simp only [Option.getD_some] at h3;rw [decide_eq_true h3] at this;exact ⟨h7,h2,by rw [hx,same_eq.1 this.symm]⟩
 ·rintro ⟨h7,h2,h3⟩;rw [getP_id h7 h2,h3];refine ⟨⟨rfl,h2⟩,?_⟩;have:=comp_same hi hi;rw [same_refl] at this;simpa using this
theorem refDoc_l {v id:Val} (h7:v.kind=7) (hc:checkV v=0):((getV v idK).isSome && sameV ((getV v idK).getD zeroV) id)=mayDocV v id:=by
 unfold mayDocV;rw [Bool.eq_iff_iff];simp only [Bool.and_eq_true,decide_eq_true_eq,same_eq,h7,hc,true_and];cases getV v idK with
 | none=>simp
 | some y=>simp
def mayDeltasV (l:List Dlt):Bool:=decide (checkD l=0) && freeD l && l.all fun d=>!decide (d.path[0]?=some idS)
theorem checkD_all {l:List Dlt} (h:checkD l=0):∀ d∈l,mayD d=true:=by
 unfold checkD at h;split at h
 ·cases h
 ·split at h
  ·rename_i h1;exact List.all_eq_true.1 h1
  ·cases h
theorem mayD_path {d:Dlt} (h:mayD d=true):0 < d.path.length:=by
 unfold mayD pathV at h;simp only [Bool.and_eq_true,decide_eq_true_eq] at h;omega
theorem fn173:FnOkC Tryz.prog 173 9 [.cell 2 27,.tmp 3] (bodyOf Tryz.f173):=⟨Tryz.f173,Tryz.func173,by kernel_rfl,by decide,by kernel_rfl,by kernel_rfl⟩
theorem s173 (v:Val) (hsz:szV v≤1099511627776):PSpec Tryz.prog 173 [.d (encV v)] (.tup ((optL (getP v idK)).map .d)):=by
 obtain ⟨kd,it,tx,xs,ns⟩:=v;refine PSpec.of2C tabOk fn173 (by simp) fun o nk=>?_;refine wr ?_;refine u_step (g_box rfl fun o2 hb2 hk2=>?_);refine u_step (g_alloc th27 rfl fun o3 hb3 hk3=>?_);have hb2_3:=(hk3 _ (by omega)).trans hb2;refine ua (u_nil (wr (ug th27 hb2_3 ?_)));refine u_step (o_bs rfl th22 rfl th9 rfl rfl (by decide) rfl (by decide) (by decide) ?_);refine u_step (o_pcall (s114 (.mk kd it tx xs ns) idK hsz) rfl ?_);refine ue (ue ?_);refine u_step0 (g_sta rfl (congrArg SV.d (encV_eq _)) th27 rfl hb3 (by simp [valCells]) fun o5 hb5 hk5=>?_);have hb2_5:=(hk5 _ (by omega)).trans hb2_3;refine ua (u_nil (WP.ret ?_));refine retC_ok (resis_agg rfl th27 rfl hb5 rfl rfl rfl) rfl ?_ ?_ (by omega) (fun t ht=>(hk5 t (by omega)).trans ((hk3 t (by omega)).trans ((hk2 t (by omega)))))
 ·exact (encV_eq _).symm
 ·rfl
theorem fn148:FnOk Tryz.prog 148 23 [4] (bodyOf Tryz.f148):=⟨Tryz.f148,Tryz.func148,by kernel_rfl,by decide,by kernel_rfl,by kernel_rfl⟩
theorem s148 (v id:Val) (hr:rngV v) (hsz:szV v≤1099511627776) (hi:mayV id=true):PSpec Tryz.prog 148 [.d (encV v),.d (encV id)] (.d (.bool (mayDocV v id))):=by
 obtain ⟨kd,it,tx,xs,ns⟩:=v;obtain ⟨kd2,it2,tx2,ys,ms⟩:=id;refine PSpec.of fn148 (by simp) fun o nk=>?_;refine wr ?_;refine u_step (g_box rfl fun o2 hb2 hk2=>?_);refine u_step (g_box rfl fun o3 hb3 hk3=>?_);have hb2_3:=(hk3 _ (by omega)).trans hb2;refine ua (u_nil (wr (ug th27 hb2_3 ?_)));refine u_step (o_pcall (s173 (.mk kd it tx xs ns) hsz) rfl ?_);refine u_step (o_moveV (v:=.tup _) rfl ?_);refine ue (ue ?_);refine u_step (g_alloc th27 rfl fun o5 hb5 hk5=>?_);have hb2_5:=(hk5 _ (by omega)).trans hb2_3;have hb3_5:=(hk5 _ (by omega)).trans hb3;refine u_step0 (g_sta rfl (congrArg SV.d (encV_eq _)) th27 rfl hb5 (by simp [valCells]) fun o6 hb6 hk6=>?_);have hb2_6:=(hk6 _ (by omega)).trans hb2_5;have hb3_6:=(hk6 _ (by omega)).trans hb3_5;refine ua (u_nil (wr (um (um ?_))));apply gT
 ·rfl
 ·intro hg;exact pg th27 hb2_6
 apply gT
 ·rfl
 ·intro hg;try simp only [hg,ct,Bt]
  refine o_pcall (s123 (.mk kd it tx xs ns) hr hsz) rfl ⟨rfl,rfl,rfl⟩
 apply gT
 ·rfl
 ·intro hg;try simp only [hg,ct,Bt]
  exact pb
 refine uA (um ?_);apply gT
 ·rfl
 ·intro hg;exact pg th27 hb6
 apply gT
 ·rfl
 ·intro hg;exact pg th27 hb3_6
 apply gT
 ·rfl
 ·intro hg;try simp only [hg,ct,Bt]
  refine o_pcall (pv2 (v:=(getP (.mk kd it tx xs ns) idK).getD zeroV) (s172 _ (.mk kd2 it2 tx2 ys ms))) rfl ⟨rfl,rfl,rfl⟩
 refine uA (ua (u_nil (WP.ret ?_)));refine ret_ok rfl ?_ (by omega) (fun t ht=>(hk6 t (by omega)).trans ((hk5 t (by omega)).trans ((hk3 t (by omega)).trans ((hk2 t (by omega))))));refine congrArg D.bool ?_;exact mayDoc_l hi
theorem fn67:FnOk Tryz.prog 67 27 [4] (bodyOf Tryz.f67):=⟨Tryz.f67,Tryz.func67,by kernel_rfl,by decide,by kernel_rfl,by kernel_rfl⟩
theorem s67 (v id:Val) (hr:rngV v) (hsz:szV v≤1099511627776):PSpec Tryz.prog 67 [.d (encV v),.d (encV id)] (.d (.bool (mayDocV v id))):=by
 obtain ⟨kd,it,tx,xs,ns⟩:=v;obtain ⟨kd2,it2,tx2,ys,ms⟩:=id;refine PSpec.of fn67 (by simp) fun o nk=>?_;refine wr ?_;refine u_step (g_box rfl fun o2 hb2 hk2=>?_);refine u_step (g_box rfl fun o3 hb3 hk3=>?_);have hb2_3:=(hk3 _ (by omega)).trans hb2;refine ua (u_nil (WP.seq fun K4 hK4=>?_));refine wr (uf th27 th3 hb2_3 ?_);refine ul th3 hb2_3 ?_;refine ub (um ?_);apply gF
 ·rfl
 ·intro hg;exact pg th27 hb2_3
 apply gF
 ·rfl
 ·intro hg;try simp only [hg,ct,Bt]
  refine o_pcall (s66 (.mk kd it tx xs ns) hr hsz) rfl ⟨rfl,rfl,rfl⟩
 apply gF
 ·rfl
 ·intro hg;try simp only [hg,ct,Bt]
  exact pb
 refine uO ?_;refine u_nil ?_;refine wc (fun hc6=>?_) (fun hc6=>?_) <;> try simp only [Q0,Q1,Q2,Q3,Q4,Q5,Q6,Q7,Q8,ge_iff_le,gt_iff_lt] at hc6
 ·
  refine wr (ua (u_nil (WP.ret ?_)));refine ret_ok rfl ?_ (by omega) (fun t ht=>(hk3 t (by omega)).trans ((hk2 t (by omega))));clear hK4;refine congrArg D.bool (decide_eq_false ?_).symm;have hq:=hc6;rintro ⟨h1,h2,h3⟩;have h1:kd=7:=h1;subst h1;simp [h2] at hq
 ·
  have hq:kd=7∧checkV (.mk kd it tx xs ns)=0:=by simpa using hc6
  refine WP.skip (hK4 _ (wr (ug th27 hb2_3 ?_)));refine u_step (o_bs rfl th22 rfl th9 rfl rfl (by decide) rfl (by decide) (by decide) ?_);refine u_step (o_pcall (s62 (.mk kd it tx xs ns) idK (check_may hq.2)) rfl ?_);refine u_step (o_moveV (v:=.tup _) rfl ?_);refine ue (ue ?_);refine u_step (g_alloc th27 rfl fun o9 hb9 hk9=>?_);have hb2_9:=(hk9 _ (by omega)).trans hb2_3;have hb3_9:=(hk9 _ (by omega)).trans hb3;refine u_step0 (g_sta rfl (congrArg SV.d (encV_eq _)) th27 rfl hb9 (by simp [valCells]) fun o10 hb10 hk10=>?_);have hb2_10:=(hk10 _ (by omega)).trans hb2_9;have hb3_10:=(hk10 _ (by omega)).trans hb3_9;refine ua (u_nil (wr (um (um ?_))));apply gT
  ·rfl
  ·intro hg;exact pg th27 hb10
  apply gT
  ·rfl
  ·intro hg;exact pg th27 hb3_10
  apply gT
  ·rfl
  ·intro hg;try simp only [hg,ct,Bt]
   refine o_pcall (pv2 (v:=(getV (.mk kd it tx xs ns) idK).getD zeroV) (s30 _ (.mk kd2 it2 tx2 ys ms))) rfl ⟨rfl,rfl,rfl⟩
  refine uA (ua (u_nil (WP.ret ?_)));refine ret_ok rfl ?_ (by omega) (fun t ht=>(hk10 t (by omega)).trans ((hk9 t (by omega)).trans ((hk3 t (by omega)).trans ((hk2 t (by omega))))));refine congrArg D.bool ?_;exact refDoc_l (v:=(.mk kd it tx xs ns)) hq.1 hq.2
theorem fn174:FnOk Tryz.prog 174 8 [2] (bodyOf Tryz.f174):=⟨Tryz.f174,Tryz.func174,by kernel_rfl,by decide,by kernel_rfl,by kernel_rfl⟩
theorem s174 (d:Dlt) (hp:0 < d.path.length):PSpec Tryz.prog 174 [.d (encD d)] (.d (.bool (decide (d.path[0]?=some idS)))):=by
 refine PSpec.of fn174 (by simp) fun o nk=>?_;refine wr ?_;refine u_step (g_box rfl fun o2 hb2 hk2=>?_);refine ua (u_nil (wr (uf th83 th22 hb2 ?_)));refine ul th22 hb2 ?_;refine u_step (o_ia_sl (a:=D.str (d.path[0]'hp)) rfl rfl th22 rfl th9 rfl (by decide) (by simp [hp]) ?_);refine uL th9 ?_;refine u_step (o_bin_str rfl (show _=SV.d (.str [95,105,100]) from rfl) rfl ?_);refine ua (u_nil (WP.ret ?_));refine ret_ok rfl ?_ (by omega) (fun t ht=>(hk2 t (by omega)));refine congrArg D.bool ?_;rw [Bool.eq_iff_iff];simp [idS,List.getElem?_eq_getElem hp]
theorem fn149:FnOk Tryz.prog 149 17 [2] (bodyOf Tryz.f149):=⟨Tryz.f149,Tryz.func149,by kernel_rfl,by decide,by kernel_rfl,by kernel_rfl⟩
theorem s149 (l:List Dlt) (hl:l.length≤64→∀ d∈l,okD d):PSpec Tryz.prog 149 [.d (.sl 8 (l.map encD))] (.d (.bool (mayDeltasV l))):=by
 refine PSpec.of fn149 (by simp) fun o nk=>?_;refine wr (ua (u_nil (wr ?_)));refine u_step (o_assignV (v:=.clo _ _ _) rfl ?_);refine u_nil (wr (um ?_));refine u_step (o_pcall (s72 l hl) rfl ?_);refine ub (um ?_);apply gT
 ·rfl
 ·intro hg;exact pm
 apply gT
 ·rfl
 ·intro hg;try simp only [hg,ct,Bt]
  refine o_pcall (s71 l) rfl ⟨rfl,rfl,rfl⟩
 refine uA (um ?_);apply gT
 ·rfl
 ·intro hg;exact pm
 apply gT
 ·rfl
 ·intro hg;refine o_moveV (v:=.clo _ _ _) rfl ⟨rfl,rfl,rfl⟩
 apply gT
 ·rfl
 ·intro hg;try simp only [hg,ct,Bt]
  have hg2:=hg;try simp only [Q0,Q1,Q2,Q3,Q4,Q5,Q6,Q9,Qa,Qb,Qc,Qd] at hg2
  refine o_scall (s121 l 174 [] [] (fun d=>decide (d.path[0]?=some idS)) (fun x hx=>s174 x (mayD_path (checkD_all hg2.1 x hx)) _ _)) rfl ⟨rfl,rfl,rfl⟩
 apply gT
 ·rfl
 ·intro hg;try simp only [hg,ct,Bt]
  exact pN
 refine uA (ua (u_nil (WP.ret ?_)));refine ret_ok rfl ?_ (by omega) (fun _ _=>rfl);refine congrArg D.bool ?_;simp only [mayDeltasV];rw [show (l.all fun d=>!decide (d.path[0]?=some idS))=!(l.any fun d=>decide (d.path[0]?=some idS)) from by rw [List.all_eq_not_any_not];simp];rfl
theorem fn68:FnOk Tryz.prog 68 26 [2] (bodyOf Tryz.f68):=⟨Tryz.f68,Tryz.func68,by kernel_rfl,by decide,by kernel_rfl,by kernel_rfl⟩
theorem s68 (l:List Dlt) (hl:l.length≤64→∀ d∈l,okD d):PSpec Tryz.prog 68 [.d (.sl 8 (l.map encD))] (.d (.bool (mayDeltasV l))):=by
 refine PSpec.bd fun hbd=>?_;have hx:l.length≤9223372036854775807:=by simpa using hbd.1.1
 refine PSpec.of fn68 (by simp) fun o nk=>?_;refine wr (ua (u_nil (WP.seq fun K2 hK2=>?_)));refine wr (um ?_);refine u_step (o_pcall (s31 l hl) rfl ?_);refine ub (um ?_);apply gF
 ·rfl
 ·intro hg;exact pm
 apply gF
 ·rfl
 ·intro hg;try simp only [hg,ct,Bt]
  refine o_pcall (s118 l) rfl ⟨rfl,rfl,rfl⟩
 apply gF
 ·rfl
 ·intro hg;try simp only [hg,ct,Bt]
  exact pN
 refine uO ?_;refine u_nil ?_;refine wc (fun hc4=>?_) (fun hc4=>?_) <;> try simp only [Q0,Q1,Q2,Q3,Q4,Q5,Q6,Q7,Q8,ge_iff_le,gt_iff_lt] at hc4
 ·
  refine wr (ua (u_nil (WP.ret ?_)));refine ret_ok rfl ?_ (by omega) (fun _ _=>rfl);refine congrArg D.bool ?_;have hq:=hc4;simp only [mayDeltasV]
  try simp only [Bool.or_eq_true,Bool.not_eq_true',bne_iff_ne,ne_eq] at hq
  rcases hq with h | h
  ·simp [h]
  ·simp [h]
 ·
  have hq:checkD l=0∧freeD l=true:=by simpa using hc4
  refine WP.skip (hK2 _ (WP.seq fun K6 hK6=>?_));refine wr (ua (u_nil (WP.block ?_)));refine WP.loopL (ι:=Nat) (fun i=>⟨al [(0,.d (.sl 8 (l.map encD))),(3,.d (.int .i64 i))],o,nk⟩) (fun i=>i≤l.length∧(l.take i).all (fun d=>!decide (d.path[0]?=some idS))=true) (fun i=>l.length - i) (fun i hA=>?_) 0 ?_ ?_
  ·
   obtain ⟨hle_i,hin_i⟩:=hA;refine WP.seq fun K8 hK8=>?_;refine wr ?_;refine um ?_;refine um ?_;refine un th28 ?_;refine ub ?_;refine u_nil ?_;refine wc (fun hc10=>?_) (fun hc10=>?_) <;> try simp only [Q0,Q1,Q2,Q3,Q4,Q5,Q6,Q7,Q8,ge_iff_le,gt_iff_lt] at hc10
   ·
    have hp:=mayD_path (checkD_all hq.1 l[i] (List.getElem_mem _));refine WP.skip (hK8 _ (WP.seq fun K11 hK11=>?_));refine WP.block (wr (um (um ?_)))
    refine u_step (o_ia_map rfl rfl th28 rfl th83 rfl (by omega) ?_)
    refine uF th83 th22 ?_;refine uL th22 ?_;refine u_step (o_ia_sl (a:=D.str (l[i].path[0]'hp)) rfl rfl th22 rfl th9 rfl (by decide) (by simp [hp]) ?_);refine uL th9 ?_;refine u_step (o_bin_str rfl (show _=SV.d (.str [95,105,100]) from rfl) rfl ?_);refine u_nil ?_;refine wc (fun hc13=>?_) (fun hc13=>?_) <;> try simp only [Q0,Q1,Q2,Q3,Q4,Q5,Q6,Q7,Q8,ge_iff_le,gt_iff_lt] at hc13
    ·
     refine wr (ua (u_nil (WP.ret ?_)));refine ret_ok rfl ?_ (by omega) (fun _ _=>rfl);refine congrArg D.bool ?_;have hq2:l[i].path[0]'hp=[95,105,100]:=by simpa using hc13
     simp only [mayDeltasV,hq.1,hq.2];rw [all_false (p:=fun d:Dlt=>!decide (d.path[0]?=some idS)) (by omega:i < l.length) (by simp [idS,List.getElem?_eq_getElem hp,hq2])];simp
    ·
     refine WP.skip (hK11 _ (WP.reg tabOk rfl ?_));refine um (ub (ua (u_nil ?_)));refine ⟨i+1,⟨by omega,?_⟩,by omega,?_⟩
     ·rw [all_snoc (by omega),hin_i];have hq2:¬ (l[i].path[0]'hp=[95,105,100]):=by simpa using hc13
      simp [idS,List.getElem?_eq_getElem hp,hq2]
     ·refine Le.al ?_;simp only [List.forall_mem_cons];exact ⟨rfl,cnt (by omega),by simp⟩
   ·
    refine WP.exit ?_;refine hK6 _ (wr (ua (u_nil (WP.ret ?_))));refine ret_ok rfl ?_ (by omega) (fun _ _=>rfl);refine congrArg D.bool ?_;simp only [mayDeltasV,hq.1,hq.2];rw [all_true (by omega) hin_i];simp
  ·
   simp
  ·
   refine Le.al ?_;simp only [List.forall_mem_cons];exact ⟨rfl,rfl,by simp⟩
theorem o_ia_ar {P:Program} {Θ:Tab} {K:SV→(Nat→Option AO)→Nat→Prop} {sl:Nat→SV} {o:Nat→Option AO} {nk:Nat} {x ix:Operand} {t e:Nat} {i j:TI} {q g c:Nat} {cs:List SV} {k:IntKind} {m:Int} (hx:ev sl x=.loc q g) (hy:ev sl ix=.d (.int k m)) (hi:Θ t=some i) (hk:i.k=.arr c e) (hj:Θ e=some j) (ho:o q=some (.box cs)) (h0:0≤m) (hlt:m.toNat < c) (h:K (.loc q (g+m.toNat * j.sz)) o nk):vOp P Θ (.indexAddr t x ix) ⟨sl,o,nk⟩ K:=o_ia_arr hx hy hi hk hj h0 hlt ho h
def setA:Nat→List D
 | 0=>List.replicate 256 (.bool false)
 | 1=>(List.replicate 256 (.bool false)).set 36 (.bool true)
 | _=>((List.replicate 256 (.bool false)).set 36 (.bool true)).set 0 (.bool true)
theorem setA_at {c:Nat} (h:c < 256):((setA 2).map SV.d)[c]?=some (.d (.bool (decide (c=36∨c=0)))):=by
 simp only [setA,List.getElem?_map,List.getElem?_set,List.getElem?_replicate,List.length_set,List.length_replicate];by_cases h0:c=0
 ·subst h0;simp
 ·by_cases h36:c=36
  ·subst h36;simp
  ·have a:¬ 0=c:=by omega
   have b:¬ 36=c:=by omega
   simp [h,h0,h36,a,b]
def validR (c:Int):Bool:=decide (0≤c∧c < 55296) || decide (57343 < c∧c≤1114111)
theorem enc_last {c:Int} (h:128≤c) (hv:validR c=true):∃ m,(Utf8.encode c).data.toList.length=m+1∧1≤m∧128≤bAt (Utf8.encode c).data.toList m:=by
 have h4:=encode_len4 c;have hv':Utf8.valid c=true:=by
  simp only [validR,Bool.or_eq_true,decide_eq_true_eq] at hv;simp only [Utf8.valid,Bool.or_eq_true,Bool.and_eq_true,decide_eq_true_eq];rcases hv with ⟨h1,h2⟩ | ⟨h1,h2⟩
  ·exact .inl ⟨h1,h2⟩
  ·exact .inr ⟨by omega,h2⟩
 have hb:∀ n:Nat,128≤(UInt8.ofNat (128+n % 64)).toNat:=fun n=>by
  rw [UInt8.toNat_ofNat'];omega
 unfold Utf8.encode;rw [if_pos hv'];simp only;split
 ·omega
 ·split
  ·refine ⟨1,rfl,by omega,?_⟩;have:=hb c.toNat;show (128:Int)≤((UInt8.ofNat (128+c.toNat % 64)).toNat:Int);omega
  ·split
   ·refine ⟨2,rfl,by omega,?_⟩;have:=hb c.toNat;show (128:Int)≤((UInt8.ofNat (128+c.toNat % 64)).toNat:Int);omega
   ·refine ⟨3,rfl,by omega,?_⟩;have:=hb c.toNat;show (128:Int)≤((UInt8.ofNat (128+c.toNat % 64)).toNat:Int);omega
def s2:Str:=[36,0]
def runeI (c:Int):Int:=if c=36 then 0 else if c=0 then 1 else -1
theorem idx2 {c:Int} (h0:0≤c) (h:c < 128):Go.Lib.indexByte [36,0] (IntKind.u8.wrap c).toNat.toUInt8=runeI c:=by
 obtain ⟨n,rfl⟩:=Int.eq_ofNat_of_zero_le h0;have e:(IntKind.u8.wrap (n:Int)).toNat=n:=by rw [wrap_u8];omega
 rw [e];have h1:∀ m:Nat,m < 128→Go.Lib.indexByte [36,0] m.toUInt8=runeI (m:Int):=by decide
 exact h1 n (by omega)
theorem dec2 {i:Nat} (h:i < 2):(Utf8.decode ⟨([36,0]:Str).toArray⟩ i).1 < 128:=by
 rcases (show i=0∨i=1 by omega) with rfl | rfl <;> decide
theorem fn195:FnOk Tryz.prog 195 8 [4] (bodyOf Tryz.f195):=⟨Tryz.f195,Tryz.func195,by kernel_rfl,by decide,by kernel_rfl,by kernel_rfl⟩
theorem s195 (s:Str) (c:Int):PSpec Tryz.prog 195 [.d (.str s),.d (.int .u8 c)] (.d (.int .i64 (Go.Lib.indexByte s c.toNat.toUInt8))):=by
 refine PSpec.of fn195 (by simp) fun o nk=>?_;refine wr (ua (u_nil (wr (um (um ?_)))));refine u_step (o_pcall (s203 _ _) rfl ?_);refine ua (u_nil (WP.ret ?_));refine ret_ok rfl ?_ (by omega) (fun _ _=>rfl);rfl
theorem fn196:FnOk Tryz.prog 196 17 [2] (bodyOf Tryz.f196):=⟨Tryz.f196,Tryz.func196,by kernel_rfl,by decide,by kernel_rfl,by kernel_rfl⟩
theorem s196 (c:Int):PSpec Tryz.prog 196 [.d (.int .i32 c)] (.d (.bool (validR c))):=by
 refine PSpec.of fn196 (by simp) fun o nk=>?_;refine wr (ua (u_nil (WP.seq fun K2 hK2=>?_)));refine WP.block (wr (um (ub (um ?_))));apply gT
 ·rfl
 ·intro hg;exact pm
 apply gT
 ·rfl
 ·intro hg;try simp only [hg,ct,Bt]
  exact pb
 refine uA ?_;refine ua ?_;refine u_nil ?_;refine wc (fun hc4=>?_) (fun hc4=>?_) <;> try simp only [Q0,Q1,Q2,Q3,Q4,Q5,Q6,Q7,Q8,ge_iff_le,gt_iff_lt] at hc4
 ·
  refine wr (ua (u_nil (WP.ret ?_)));refine ret_ok rfl ?_ (by omega) (fun _ _=>rfl);refine congrArg D.bool ?_;simp only [validR]
  grind
 ·
  refine wr (um (ub (um ?_)));apply gT
  ·rfl
  ·intro hg;exact pm
  apply gT
  ·rfl
  ·intro hg;try simp only [hg,ct,Bt]
   exact pb
  refine uA ?_;refine ua ?_;refine u_nil ?_;refine wc (fun hc7=>?_) (fun hc7=>?_) <;> try simp only [Q0,Q1,Q2,Q3,Q4,Q5,Q6,Q7,Q8,ge_iff_le,gt_iff_lt] at hc7
  ·
   refine wr (ua (u_nil (WP.ret ?_)));refine ret_ok rfl ?_ (by omega) (fun _ _=>rfl);refine congrArg D.bool ?_;simp only [validR]
   grind
  ·
   refine WP.skip (hK2 _ (wr (ua (u_nil (WP.ret ?_)))));refine ret_ok rfl ?_ (by omega) (fun _ _=>rfl);refine congrArg D.bool ?_;simp only [validR]
   grind
theorem fn176:FnOk Tryz.prog 176 5 [2] (bodyOf Tryz.f176):=⟨Tryz.f176,Tryz.func176,by kernel_rfl,by decide,by kernel_rfl,by kernel_rfl⟩
theorem s176 (n:Int):PSpec Tryz.prog 176 [.d (.int .i64 n)] (.d (.bool (decide (8 < n)))):=by
 refine PSpec.of fn176 (by simp) fun o nk=>?_;refine wr (ua (u_nil (wr (um (ub (ua (u_nil (WP.ret ?_))))))));refine ret_ok rfl ?_ (by omega) (fun _ _=>rfl);rfl
theorem fn177:FnOkC Tryz.prog 177 21 [.cell 2 149,.tmp 3] (bodyOf Tryz.f177):=⟨Tryz.f177,Tryz.func177,by kernel_rfl,by decide,by kernel_rfl,by kernel_rfl⟩
theorem s177:PSpec Tryz.prog 177 [.d (.str [36,0])] (.tup (([.agg (setA 2),.bool true]).map .d)):=by
 refine PSpec.of2C tabOk fn177 (by simp) fun o nk=>?_;refine wr ?_;refine u_step (g_alloc th149 rfl fun o2 hb2 hk2=>?_);refine ua (u_nil (WP.seq fun K3 hK3=>?_));refine wr (ua (u_nil (WP.block ?_)));refine WP.loopL (ι:=Nat×(Nat→Option AO)) (fun ⟨i,o2⟩=>⟨al [(0,.d (.str [36,0])),(2,.loc nk 0),(4,.d (.int .i64 i))],o2,(nk+1)⟩) (fun ⟨i,o2⟩=>i≤2∧o2 nk=some (.box ((setA i).map .d))∧∀ t,t < nk→o2 t=o t) (fun ⟨i,o2⟩=>2 - i) (fun ⟨i,o2⟩ hA=>?_) ⟨0,o2⟩ ?_ ?_
 ·
  obtain ⟨hle,hob,hfr⟩:=hA;refine WP.seq fun K5 hK5=>?_;refine wr ?_;refine um ?_;refine um ?_;refine u_step (o_len_str rfl th9 rfl ?_);refine ub ?_;refine u_nil ?_;refine wc (fun hc7=>?_) (fun hc7=>?_) <;> try simp only [Q0,Q1,Q2,Q3,Q4,Q5,Q6,Q7,Q8,ge_iff_le,gt_iff_lt] at hc7
  ·
   have hi:i=0∨i=1:=by simp at hc7;omega
   refine WP.skip (hK5 _ (WP.seq fun K8 hK8=>?_));refine WP.block (wr (um (um ?_)));refine u_step (o_ix rfl rfl th9 rfl ?_ ?_ ?_)
   ·omega
   ·rcases hi with rfl | rfl <;> decide
   refine ua ?_;refine u_nil ?_;refine WP.seq fun K10 hK10=>?_;refine wr ?_;refine um ?_;refine ub ?_;refine u_nil ?_;refine wc (fun hc12=>?_) (fun hc12=>?_) <;> try simp only [Q0,Q1,Q2,Q3,Q4,Q5,Q6,Q7,Q8,ge_iff_le,gt_iff_lt] at hc12
   ·
    exfalso;rcases hi with rfl | rfl <;> exact absurd hc12 (by decide)
   ·
    refine WP.skip (hK10 _ (WP.reg tabOk rfl ?_));refine um ?_;refine u_step (o_ia_ar rfl rfl th149 rfl th4 hob ?_ ?_ ?_)
    ·rcases hi with rfl | rfl <;> decide
    ·rcases hi with rfl | rfl <;> decide
    refine u_step0 (g_st rfl rfl rfl th4 rfl hob (by rcases hi with rfl | rfl <;> decide) fun o13 hb13 hk13=>?_);refine u_nil ?_;refine hK8 _ ?_;refine WP.reg tabOk rfl ?_;refine um ?_;refine ub ?_;refine ua ?_;refine u_nil ?_;refine ⟨⟨i+1,o13⟩,⟨by omega,?_,(fun t ht=>(hk13 t (by omega)).trans ((hfr t (by omega))))⟩,by simp only;omega,?_⟩
    ·rcases hi with rfl | rfl
     ·exact (hb13).trans (by kernel_rfl)
     ·exact (hb13).trans (by kernel_rfl)
    ·refine Le.al ?_;simp only [List.forall_mem_cons];exact ⟨rfl,rfl,cnt (by omega),by simp⟩
  ·
   have hi2:i=2:=by simp at hc7;omega
   refine WP.exit ?_;refine hK3 _ ?_;subst hi2;refine wr (ug th149 hob ?_);refine u_step0 (g_sta rfl rfl th149 rfl hob (by simp [setA]) fun o15 hb15 hk15=>?_);refine ua (u_nil (WP.ret ?_));refine retC_ok (resis_agg rfl th149 rfl hb15 rfl rfl rfl) rfl ?_ ?_ (by omega) (fun t ht=>(hk15 t (by omega)).trans ((hfr t (by omega))))
   ·rfl
   ·rfl
 ·
  exact ⟨by omega,hb2,(fun t ht=>(hk2 t (by omega)))⟩
 ·
  refine Le.al ?_;simp only [List.forall_mem_cons];exact ⟨rfl,rfl,rfl,by simp⟩
theorem o_nc {P:Program} {Θ:Tab} {K:SV→(Nat→Option AO)→Nat→Prop} {sl:Nat→SV} {o:Nat→Option AO} {nk:Nat} {x:Operand} {q g:Nat} {cs:List SV} (hx:ev sl x=.loc q g) (ho:o q=some (.box cs)) (h:K (.loc q g) o nk):vOp P Θ (.nilCheck x) ⟨sl,o,nk⟩ K:=by
 refine Or.inl ⟨?_,?_⟩
 ·show ncOp o (ev sl x);rw [hx];exact ⟨cs,ho⟩
 ·show K (ev sl x) o nk;rw [hx];exact h
theorem setA_at2 {c:Nat} (h:c < 256):((setA 2).map SV.d)[0+((c:Int)).toNat * 1]?=some (.d (.bool (decide (c=36∨c=0)))):=by
 rw [Int.toNat_natCast,Nat.zero_add,Nat.mul_one];exact setA_at h
theorem dec_bd (s:ByteArray) (i:Nat):(Utf8.decode s i).1≤1114111:=by
 have hb:∀ k,(s.get! (i+k)).toNat < 256:=fun k=>(s.get! (i+k)).toNat_lt;have h0:=hb 0;have h1:=hb 1;have h2:=hb 2;have h3:=hb 3;have hv:∀ c:Nat,Utf8.valid (c:Int)=true→c≤1114111:=fun c h=>by
  simp only [Utf8.valid,Bool.or_eq_true,Bool.and_eq_true,decide_eq_true_eq] at h;omega
 simp only [Utf8.decode]
 repeat' split
 all_goals simp only [Utf8.runeError,Bool.and_eq_true,decide_eq_true_eq] at *
 all_goals first
  | omega
  | (rename_i h;exact hv _ h.2)
theorem dec_skip (s:ByteArray) (i:Nat) (h:i < s.size):1≤(Utf8.decode s i).2∧i+(Utf8.decode s i).2≤s.size∧∀ k,1≤k→k < (Utf8.decode s i).2→128≤(s.get! (i+k)).toNat:=by
 simp only [Utf8.decode]
 repeat' split
 all_goals simp only [Bool.and_eq_true,decide_eq_true_eq,beq_iff_eq] at *
 all_goals refine ⟨by omega,by omega,fun k hk1 hk2=>?_⟩
 all_goals
  by_cases e1:k=1
  ·subst e1;omega
  ·by_cases e2:k=2
   ·subst e2;omega
   ·by_cases e3:k=3
    ·subst e3;omega
    ·omega
def badC (c:UInt8):Bool:=decide (c=36∨c=0)
theorem badC_nat (c:UInt8):badC c=decide (c.toNat=36∨c.toNat=0):=by
 unfold badC;rw [Bool.eq_iff_iff];simp only [decide_eq_true_eq];constructor
 ·rintro (rfl | rfl)
  ·exact .inl rfl
  ·exact .inr rfl
 ·rintro (h | h)
  ·exact .inl ((toNat_eq (n:=36) (by omega)).1 (by omega))
  ·exact .inr ((toNat_eq (n:=0) (by omega)).1 (by omega))
def anyI (s:Str):Int:=firstI badC s
theorem get_bang {s:Str} {j:Nat} (h:j < s.length):((⟨s.toArray⟩:ByteArray).get! j)=s[j]'h:=by
 show (s.toArray[j]!)=_;simp [h]
theorem dec_at {s:Str} {i:Nat} (h:i < s.length):1≤(Utf8.decode ⟨s.toArray⟩ i).2∧i+(Utf8.decode ⟨s.toArray⟩ i).2≤s.length∧
    (∀ (j:Nat) (hj:j < s.length),i < j→j < i+(Utf8.decode ⟨s.toArray⟩ i).2→badC (s[j]'hj)=false)∧decide (0≤runeI ((Utf8.decode ⟨s.toArray⟩ i).1:Nat))=badC (s[i]'h):=by
  have hs:i < (⟨s.toArray⟩:ByteArray).size:=by simpa [ByteArray.size] using h
  obtain ⟨h1,h2,h3⟩:=dec_skip ⟨s.toArray⟩ i hs;have hsz:(⟨s.toArray⟩:ByteArray).size=s.length:=by simp [ByteArray.size]
  refine ⟨h1,by omega,fun j hj hij hj2=>?_,?_⟩
  · have:=h3 (j - i) (by omega) (by omega);rw [show i+(j - i)=j by omega,get_bang hj] at this;rw [badC_nat,decide_eq_false_iff_not];omega
  · have hg:(⟨s.toArray⟩:ByteArray)[i]'hs=s[i]'h:=rfl;rw [badC_nat];by_cases ha:(s[i]'h).toNat < 128
    · have:=decode_ascii ⟨s.toArray⟩ i hs (by rw [hg];exact ha);rw [this,hg];unfold runeI;rw [Bool.eq_iff_iff];simp only [decide_eq_true_eq];split
      · omega
      · split <;> omega
    · have:=(decode_high ⟨s.toArray⟩ i hs (by rw [hg];omega)).1;unfold runeI;rw [Bool.eq_iff_iff];simp only [decide_eq_true_eq];rw [if_neg (by omega),if_neg (by omega)];omega
theorem fn178:FnOk Tryz.prog 178 10 [4] (bodyOf Tryz.f178):=⟨Tryz.f178,Tryz.func178,by kernel_rfl,by decide,by kernel_rfl,by kernel_rfl⟩
theorem s178 {o:Nat→Option AO} {nk k c:Nat} (hkc:o k=some (.box ((setA 2).map .d))) (hkl:k < nk) (hc:c < 256):Spec Tryz.prog 178 [.loc k 0,.d (.int .u8 (c:Int))] o nk (fun r' o' nk'=>r'=.d (.bool (decide (c=36∨c=0)))∧o'=o∧nk'=nk):=by
 refine Spec.pure (fun _=>trivial) rfl (Spec.of_body fn178 (by simp) ?_);refine wr (ua (u_nil (wr (uM (um ?_)))));refine u_step (o_nc rfl hkc ?_);refine u_step (o_ia_ar rfl rfl th149 rfl th4 hkc ?_ ?_ ?_)
 ·omega
 ·omega
 refine u_step (o_ld_loc rfl th4 rfl hkc (setA_at2 hc) ?_);refine ua (u_nil (WP.ret ?_));refine ret_ok rfl ?_ (by omega) (fun _ _=>rfl);rfl
theorem fn175:FnOk Tryz.prog 175 187 [4] (bodyOf Tryz.f175):=⟨Tryz.f175,Tryz.func175,by kernel_rfl,by decide,by kernel_rfl,by kernel_rfl⟩
theorem s175 (c:Int) (h1:0≤c) (h2:c≤1114111):PSpec Tryz.prog 175 [.d (.str [36,0]),.d (.int .i32 c)] (.d (.int .i64 (runeI c))):=by
 refine PSpec.of fn175 (by simp) fun o nk=>?_;refine wr (ua (u_nil (WP.block (wr (um (ub (um ?_)))))));apply gT
 ·rfl
 ·intro hg;exact pm
 apply gT
 ·rfl
 ·intro hg;try simp only [hg,ct,Bt]
  exact pb
 refine uA ?_;refine ua ?_;refine u_nil ?_;refine wc (fun hc3=>?_) (fun hc3=>?_) <;> try simp only [Q0,Q1,Q2,Q3,Q4,Q5,Q6,Q7,Q8,ge_iff_le,gt_iff_lt] at hc3
 ·
  have h128:c < 128:=by simp at hc3;omega
  refine wr (um (um (uc th21 th5 ?_)));refine u_step (o_pcall (s195 _ _) rfl ?_);refine ua (u_nil (WP.ret ?_));refine ret_ok rfl ?_ (by omega) (fun _ _=>rfl)
  skip
  refine congrArg (D.int .i64) ?_;exact idx2 h1 h128
 ·
  have hc2:128≤c:=by have:=hc3;simp at this;omega
  refine wr ?_;refine um ?_;refine ub ?_;refine ua ?_;refine u_nil ?_;refine wc (fun hc6=>?_) (fun hc6=>?_) <;> try simp only [Q0,Q1,Q2,Q3,Q4,Q5,Q6,Q7,Q8,ge_iff_le,gt_iff_lt] at hc6
  ·
   have hce:c=65533:=by simpa using hc6
   refine WP.seq fun K7 hK7=>?_;refine wr (um ?_);refine u_step (g_range rfl th9 rfl fun o9 hb9 hk9=>?_);refine u_nil (WP.block ?_);refine WP.loopL (ι:=Nat×(Nat→Option AO)) (fun ⟨i,o2⟩=>⟨al [(175,.raw nk)],o2,(nk+1)⟩) (fun ⟨i,o2⟩=>i≤2∧o2 nk=some (.raw (itOb [36,0] i))∧∀ t,t < nk→o2 t=o t) (fun ⟨i,o2⟩=>2 - i) (fun ⟨i,o2⟩ hA=>?_) ⟨0,o9⟩ ?_ ?_
   ·
    obtain ⟨hle,hob,hfr⟩:=hA;refine wr ?_;refine u_step (g_next rfl hob (fun hp11 o11 hb11 hk11=>?_) (fun hp11=>?_))
    ·
     have hi:i=0∨i=1:=by have:=hp11;simp at this;omega
     have hdd:=dec2 (i:=i) (by omega);refine ue ?_;refine u_nil ?_;refine WP.seq fun K12 hK12=>?_;refine WP.cond rfl (fun hc13=>?_) (fun hc13=>by cases hc13);refine WP.skip ?_;refine hK12 _ ?_;refine WP.block ?_;refine wr ?_;refine ue ?_;refine ue ?_;refine ua ?_;refine ua ?_;refine u_nil ?_;refine wr ?_;refine um ?_;refine ub ?_;refine u_nil ?_;refine wc (fun hc16=>?_) (fun hc16=>?_) <;> try simp only [Q0,Q1,Q2,Q3,Q4,Q5,Q6,Q7,Q8,ge_iff_le,gt_iff_lt] at hc16
     ·
      refine wr (um (ua (u_nil (WP.ret ?_))));refine ret_ok rfl ?_ (by omega) (fun t ht=>(hk11 t (by omega)).trans ((hfr t (by omega))));exfalso;have hq:=hc16;simp at hq;omega
     ·
      refine WP.skip ?_;refine ⟨⟨i+1,o11⟩,⟨by omega,?_,(fun t ht=>(hk11 t (by omega)).trans ((hfr t (by omega))))⟩,by simp only;omega,?_⟩
      ·have hft:=hb11;rcases hi with rfl | rfl
       ·exact hft
       ·exact hft
      ·refine Le.al ?_;simp only [List.forall_mem_cons];exact ⟨rfl,by simp⟩
    ·
     refine ue (u_nil (WP.seq fun K18 hK18=>?_));refine WP.cond rfl (fun hc19=>by cases hc19) (fun hc19=>?_);refine WP.exit ?_;refine hK7 _ (wr (ua (u_nil (WP.ret ?_))));refine ret_ok rfl ?_ (by omega) (fun t ht=>(hfr t (by omega)));refine congrArg (D.int .i64) ?_;rw [hce];rfl
   ·
    exact ⟨by omega,hb9,(fun t ht=>(hk9 t (by omega)))⟩
   ·
    refine Le.al ?_;simp only [List.forall_mem_cons];exact ⟨rfl,by simp⟩
  ·
   refine wr ?_;refine um ?_;refine u_step (o_pcall (s196 _) rfl ?_);refine uN ?_;refine ua ?_;refine u_nil ?_;refine wc (fun hc22=>?_) (fun hc22=>?_) <;> try simp only [Q0,Q1,Q2,Q3,Q4,Q5,Q6,Q7,Q8,ge_iff_le,gt_iff_lt] at hc22
   ·
    refine wr (ua (u_nil (WP.ret ?_)));refine ret_ok rfl ?_ (by omega) (fun _ _=>rfl);refine congrArg (D.int .i64) ?_;unfold runeI;rw [if_neg (by omega),if_neg (by omega)]
   ·
    obtain ⟨m,hm,hm1,hml⟩:=enc_last hc2 (by simpa using hc22);refine WP.scope (wr (um ?_));refine u_step (o_cv_rune rfl th21 rfl th9 rfl ?_);refine ua (u_nil (wr (um ?_)));refine u_step (o_len_str rfl th9 rfl ?_);refine ub (ua ?_);refine u_nil (wr (um (ua (u_nil (wr (ua (u_nil (WP.seq fun K28 hK28=>?_))))))));refine WP.block ?_;refine WP.loopL (ι:=Unit) (fun _u=>⟨al [(0,.d (.str [36,0])),(7,.d (.str (Utf8.encode c).data.toList)),(8,.d (.int .i64 (m:Nat))),(9,.d (.int .i64 (m:Nat)))],o,nk⟩) (fun _u=>True) (fun _u=>0) (fun _u hA=>?_) () ?_ ?_
    ·
     refine WP.seq fun K29 hK29=>?_;refine wr ?_;refine um ?_;refine um ?_;refine u_step (o_len_str rfl th9 rfl ?_);refine ub ?_;refine u_nil ?_;refine wc (fun hc31=>?_) (fun hc31=>?_) <;> try simp only [Q0,Q1,Q2,Q3,Q4,Q5,Q6,Q7,Q8,ge_iff_le,gt_iff_lt] at hc31
     ·
      obtain rfl:m=1:=by simp at hc31;omega
      refine WP.skip ?_;refine hK29 _ ?_;refine WP.block ?_;refine WP.scope ?_;refine WP.seq fun K32 hK32=>?_;refine wd ?_;refine dm ?_;refine dm ?_;refine d_step (o_ix rfl rfl th9 rfl (by decide) (by decide) ⟨rfl,rfl,rfl⟩) ?_;refine dm ?_;refine dm ?_;refine d_step (o_ix rfl rfl th9 rfl (by decide) (by rw [hm];decide) ⟨rfl,rfl,rfl⟩) ?_;refine db ?_;refine d_nil ?_;refine wc (fun hc34=>?_) (fun hc34=>?_) <;> try simp only [Q0,Q1,Q2,Q3,Q4,Q5,Q6,Q7,Q8,ge_iff_le,gt_iff_lt] at hc34
      ·
       refine wd ?_;refine dm ?_;refine dm ?_;refine db ?_;refine d_step (o_sl_str (m:=2) (p:=2) rfl th9 rfl rfl rfl ⟨rfl,rfl,rfl⟩) ?_;refine dm ?_;refine dm ?_;refine d_step (o_ix rfl rfl th9 rfl (by decide) (by rw [hm];decide) ⟨rfl,rfl,rfl⟩) ?_;refine d_step (o_pcall (s195 _ _) rfl ⟨rfl,rfl,rfl⟩) ?_;refine da ?_;refine d_nil ?_;refine WP.seq fun K36 hK36=>?_;refine wr ?_;refine um ?_;refine ub ?_;refine u_nil ?_;refine wc (fun hc38=>?_) (fun hc38=>?_) <;> try simp only [Q0,Q1,Q2,Q3,Q4,Q5,Q6,Q7,Q8,ge_iff_le,gt_iff_lt] at hc38
       ·
        refine wr (ua (u_nil (WP.ret ?_)));refine ret_ok rfl ?_ (by omega) (fun _ _=>rfl);refine congrArg (D.int .i64) ?_;unfold runeI;rw [if_neg (by omega),if_neg (by omega)]
       ·
        exfalso;have hq:=hc38;simp [Go.Lib.indexByte] at hq
      ·
       exfalso;have hq:=hc34;simp at hq;have h0:bAt [36,0] 1=0:=rfl;omega
     ·
      refine WP.exit ?_;refine hK28 _ (WP.seq fun K40 hK40=>?_);refine wr (ua (u_nil (WP.ret ?_)));refine ret_ok rfl ?_ (by omega) (fun _ _=>rfl);refine congrArg (D.int .i64) ?_;unfold runeI;rw [if_neg (by omega),if_neg (by omega)]
    ·
     trivial
    ·
     have hw:IntKind.i64.wrap (((Utf8.encode c).data.toList.length:Int) - 1)=(m:Int):=by rw [hm,wrap_i64 (by omega) (by have:=encode_len4 c;omega)];omega
     refine Le.al ?_;simp only [List.forall_mem_cons];exact ⟨rfl,rfl,(by rw [← hw];rfl),(by rw [← hw];rfl),by simp⟩
section
variable {P:Program} {Θ:Tab} {K:SV→(Nat→Option AO)→Nat→Prop} {sl:Nat→SV} {o:Nat→Option AO} {nk:Nat} {x y ix:Operand} {t e f:Nat}
theorem o_pcallF {g:FuncId} {asx:Array Operand} {ts:Array Nat} {us us2:List SV} {r:SV} {t1 e1 z:Nat} {xs:List D} (ht:o t1=some (.row e1 z xs)) (hs:PSpec P g us2 r) (ha:asx.toList.map (ev sl)=us) (hu:us.map (SV.frz t1 (.sl z xs))=us2)
    (h:∀ o1,(∀ u,u≠t1→o1 u=o u)→K r o1 nk):vOp P Θ (.call { callee:=.value (.func g),args:=asx,argTypes:=ts }) ⟨sl,o,nk⟩ K:=
  o_call (Spec.freeze ht (by rw [hu];exact hs _ nk)) ha (by rintro r' o' nk' ⟨rfl,rfl,rfl⟩;exact h _ fun u hu=>by simp [upd,hu])
end
section
variable {P:Program} {Θ:Tab} {ops:Array Oper} {K:St→Prop} {r:List Oper} {sl:Nat→SV} {d ty j lo m nk nk':Nat} {o o':Nat→Option AO} {op:Op} {pos:String} {af:Array Edge} {want c:Bool} {v:SV} {L:List Ob} {ks:List Kd}
end
inductive TM (α:Type) where
 | e
 | n (v:Option α) (l r:TM α)
namespace TM
variable {α:Type}
def get:TM α→Nat→Option α
 | .e,_=>none
 | .n v _ _,0=>v
 | .n _ l r,k+1=>bif Nat.beq (k % 2) 0 then get l (k / 2) else get r (k / 2)
def seq {β:Type} (t:TM α) (k:TM α→β):β:=match t with
 | .e=>k .e
 | .n v l r=>k (.n v l r)
theorem seq_eq {β:Type} (t:TM α) (k:TM α→β):seq t k=k t:=by cases t <;> rfl
def put (v:Option α):Nat→TM α→Nat→TM α
 | 0,t,_=>t
 | _+1,.e,0=>.n v .e .e
 | _+1,.n _ l r,0=>.n v l r
 | d+1,.e,k+1=>bif Nat.beq (k % 2) 0 then seq (put v d .e (k / 2)) fun l=>.n none l .e else seq (put v d .e (k / 2)) fun r=>.n none .e r
 | d+1,.n u l r,k+1=>bif Nat.beq (k % 2) 0 then seq (put v d l (k / 2)) fun l=>.n u l r else seq (put v d r (k / 2)) fun r=>.n u l r
theorem beq_cond {a b:Nat} {β:Type} (x y:β):(bif Nat.beq a b then x else y)=if a=b then x else y:=by
 by_cases h:a=b
 ·subst h;simp
 ·have:Nat.beq a b=false:=by
   cases hb:Nat.beq a b with
   | false=>rfl
   | true=>exact absurd (Nat.eq_of_beq_eq_true hb) h
  rw [this,if_neg h];rfl
theorem get_put (v:Option α):∀ (d:Nat) (t:TM α) (k i:Nat),k < d→(put v d t k).get i=if i=k then v else t.get i
 | 0,_,_,_,h=>by omega
 | d+1,.e,0,i,_=>by
  cases i with
  | zero=>simp [put,get]
  | succ i=>simp only [put,get,beq_cond];simp
 | d+1,.n u l r,0,i,_=>by
  cases i with
  | zero=>simp [put,get]
  | succ i=>simp only [put,get,beq_cond];simp
 | d+1,.e,k+1,i,h=>by
  have ih:=get_put v d .e (k / 2);simp only [put,beq_cond,seq_eq];cases i with
  | zero=>split <;> simp [get]
  | succ i=>
   split
   ·simp only [get,beq_cond,ih _ (show k / 2 < d by omega)];split
    ·by_cases hc:i / 2=k / 2
     ·rw [if_pos hc,if_pos (by omega)]
     ·rw [if_neg hc,if_neg (by omega)]
    ·rw [if_neg (by omega)]
   ·simp only [get,beq_cond,ih _ (show k / 2 < d by omega)];split
    ·rw [if_neg (by omega)]
    ·by_cases hc:i / 2=k / 2
     ·rw [if_pos hc,if_pos (by omega)]
     ·rw [if_neg hc,if_neg (by omega)]
 | d+1,.n u l r,k+1,i,h=>by
  have ih1:=get_put v d l (k / 2);have ih2:=get_put v d r (k / 2);simp only [put,beq_cond,seq_eq];cases i with
  | zero=>split <;> simp [get]
  | succ i=>
   split
   ·simp only [get,beq_cond,ih1 _ (show k / 2 < d by omega)];split
    ·by_cases hc:i / 2=k / 2
     ·rw [if_pos hc,if_pos (by omega)]
     ·rw [if_neg hc,if_neg (by omega)]
    ·rw [if_neg (by omega)]
   ·simp only [get,beq_cond,ih2 _ (show k / 2 < d by omega)];split
    ·rw [if_neg (by omega)]
    ·by_cases hc:i / 2=k / 2
     ·rw [if_pos hc,if_pos (by omega)]
     ·rw [if_neg hc,if_neg (by omega)]
def set (t:TM α) (k:Nat) (v:Option α):TM α:=put v (k+1) t k
theorem get_set (t:TM α) (k:Nat) (v:Option α):(t.set k v).get=upd t.get k v:=by
 funext i;unfold set upd;exact get_put v _ t k i (by omega)
def mapT (f:α→α):TM α→TM α
 | .e=>.e
 | .n v l r=>seq (mapT f l) fun l=>seq (mapT f r) fun r=>match v with
  | none=>.n none l r
  | some x=>.n (some (f x)) l r
theorem get_mapT (f:α→α):∀ (t:TM α) (i:Nat),(mapT f t).get i=(t.get i).map f
 | .e,i=>rfl
 | .n v l r,i=>by
  have h1:=get_mapT f l;have h2:=get_mapT f r;simp only [mapT,seq_eq];cases v <;> cases i with
  | zero=>rfl
  | succ i=>simp only [get,beq_cond];split <;> simp [h1,h2]
def ofList (l:List α):TM α:=go l 0 .e
where go:List α→Nat→TM α→TM α
 | [],_,t=>t
 | x :: l,i,t=>go l (i+1) (t.set i (some x))
theorem ofList_go:∀ (l:List α) (k:Nat) (t:TM α) (i:Nat),(ofList.go l k t).get i=if k≤i∧i < k+l.length then l[i - k]? else t.get i
 | [],k,t,i=>by simp only [ofList.go,List.length_nil];rw [if_neg (by omega)]
 | x :: l,k,t,i=>by
  simp only [ofList.go,ofList_go l,get_set,upd,List.length_cons];by_cases h1:k+1≤i∧i < k+1+l.length
  ·rw [if_pos h1,if_pos (by omega),show i - k=(i - (k+1))+1 by omega,List.getElem?_cons_succ]
  ·rw [if_neg h1];by_cases h2:i=k
   ·subst h2;rw [if_pos rfl,if_pos (by omega)];simp
   ·rw [if_neg h2,if_neg (by omega)]
theorem get_ofList (l:List α) (i:Nat):(ofList l).get i=l[i]?:=by
 unfold ofList;rw [ofList_go];by_cases h:i < l.length
 ·rw [if_pos (by omega)];simp
 ·rw [if_neg (by omega),List.getElem?_eq_none (by omega)];rfl
end TM
structure XS where
 sl:TM SV
 o:TM AO
 nk:Nat
def XS.st (s:XS):St:=⟨fun u=>(s.sl.get u).getD .any,s.o.get,s.nk⟩
abbrev XR:=SV×TM AO×Nat
section
variable (Θ:Tab) (call:Nat→List SV→TM AO→Nat→Option XR)
def xbn (o:Nat→Option AO) (op:BinOp) (t:TypeId) (x y:SV):Option D:=
 match x,y with
 | .d (.int k a),.d (.int k' b)=>match op with
  | .shl=>shBin .shl k a b
  | .shr=>shBin .shr k a b
  | op=>if k=k' then intBin op k a b else none
 | .d (.str a),.d (.str b)=>strBin op a b
 | .d (.bool a),.d (.bool b)=>match Θ t with
  | some i=>match i.k with
   | .bool=>match op with
    | .eql=>some (.bool (a == b))
    | .neq=>some (.bool (!(a == b)))
    | _=>none
   | _=>none
  | none=>none
 | .d .nil,.d .nil=>match Θ t with
  | some i=>match i.k with
   | .slice _=>match op with
    | .eql=>some (.bool true)
    | .neq=>some (.bool false)
    | _=>none
   | _=>none
  | none=>none
 | .d (.sl _ (_ :: _)),.d .nil=>match Θ t with
  | some i=>match i.k with
   | .slice _=>match op with
    | .eql=>some (.bool false)
    | .neq=>some (.bool true)
    | _=>none
   | _=>none
  | none=>none
 | .d .nilp,.d .nilp=>match Θ t with
  | some i=>match i.k with
   | .ptr _=>match op with
    | .eql=>some (.bool true)
    | .neq=>some (.bool false)
    | _=>none
   | _=>none
  | none=>none
 | .loc q _,.d .nilp=>match Θ t with
  | some i=>match i.k with
   | .ptr _=>match o q with
    | some (.box _)=>match op with
     | .eql=>some (.bool false)
     | .neq=>some (.bool true)
     | _=>none
    | _=>none
   | _=>none
  | none=>none
 | _,_=>none
theorem xbn_ok {o:Nat→Option AO} {op:BinOp} {t:TypeId} {x y:SV} {r:D} (h:xbn Θ o op t x y=some r) {K:SV→Prop} (hK:K (.d r)):bnOp Θ o op t x y K:=by
 unfold xbn at h;split at h
 ·split at h
  ·exact ⟨r,h,hK⟩
  ·exact ⟨r,h,hK⟩
  ·split at h
   ·rename_i he;unfold bnOp;simp only;exact ⟨he,r,h,hK⟩
   ·cases h
 ·exact ⟨r,h,hK⟩
 all_goals (repeat' (split at h)) <;> first | (cases h;done) | (simp only [Option.some.injEq] at h;subst h;simp_all [bnOp])
def xld (o:Nat→Option AO) (t:TypeId) (x:SV):Option SV:=
 match Θ t with
 | none=>none
 | some i=>match x with
  | .loc k f=>match o k with
   | some (.box cs)=>match i.k.agg with
    | true=>match allD ((cs.drop f).take i.sz) with
     | some ds=>if ds.length=i.sz∧ds.all D.leaf=true then some (.d (.agg ds)) else none
     | none=>if ((cs.drop f).take i.sz).length=i.sz∧((cs.drop f).take i.sz).all (oneC o)=true then some (.ag ((cs.drop f).take i.sz)) else none
    | false=>cs[f]?
   | _=>none
  | .el x=>if x.leaf=!i.k.agg∧x.width=i.sz then some (.d x) else none
  | _=>none
theorem xld_ok {o:Nat→Option AO} {t:TypeId} {x:SV} {r:SV} (h:xld Θ o t x=some r) {K:SV→Prop} (hK:K r):ldOp Θ o t x K:=by
 unfold xld at h;split at h
 ·cases h
 ·rename_i i hi;refine ⟨i,hi,?_⟩;split at h
  ·split at h
   ·rename_i cs hcs;refine ⟨cs,hcs,?_⟩;split at h
    ·rename_i ha;rw [if_pos ha];split at h
     ·rename_i ds hds;split at h
      ·rename_i hc;simp only [Option.some.injEq] at h;subst h;exact .inl ⟨ds,hds,hc.1,hc.2,hK⟩
      ·cases h
     ·split at h
      ·rename_i hc;simp only [Option.some.injEq] at h;subst h;exact .inr ⟨hc.1,hc.2,hK⟩
      ·cases h
    ·rename_i ha;rw [if_neg (by simp [ha])];exact ⟨r,h,hK⟩
   ·cases h
  ·split at h
   ·rename_i hc;simp only [Option.some.injEq] at h;subst h;exact ⟨hc.1,hc.2,hK⟩
   ·cases h
  ·cases h
def xst (o:TM AO) (t:TypeId) (x y:SV):Option (TM AO):=
 match Θ t with
 | none=>none
 | some i=>match y.cells o.get with
  | none=>none
  | some ys=>if ys.length=i.sz then match x with
   | .loc k f=>match o.get k with
    | some (.box cs)=>if f+ys.length≤cs.length then some (o.set k (some (.box (cs.take f++ys++cs.drop (f+ys.length))))) else none
    | _=>none
   | _=>none
   else none
theorem xst_ok {o:TM AO} {t:TypeId} {x y:SV} {r:TM AO} (h:xst Θ o t x y=some r) {K:(Nat→Option AO)→Prop} (hK:K r.get):stOp Θ o.get t x y K:=by
 unfold xst at h;split at h
 ·cases h
 ·rename_i i hi;split at h
  ·cases h
  ·rename_i ys hys;split at h
   ·rename_i hl;refine ⟨i,ys,hi,hys,hl,?_⟩;split at h
    ·split at h
     ·rename_i cs hcs;split at h
      ·rename_i hle;simp only [Option.some.injEq] at h;subst h;rw [TM.get_set] at hK;exact ⟨cs,hcs,hle,hK⟩
      ·cases h
     ·cases h
    ·cases h
   ·cases h
def xfd (o:Nat→Option AO) (t:TypeId) (x:SV) (f:Nat):Option SV:=
 match Θ t with
 | none=>none
 | some i=>match i.k with
  | .struct fs=>match fs[f]? with
   | none=>none
   | some (off,ft)=>match Θ ft with
    | none=>none
    | some j=>if j.sz=0 then none else match x with
     | .loc k g=>match o k with
      | some (.box _)=>some (.loc k (g+off))
      | _=>none
     | .el x=>(x.sub off j.sz j.k.agg).map .el
     | .rel k q g=>match o k with
      | some (.row _ _ _)=>some (.rel k q (g+off))
      | _=>none
     | _=>none
  | _=>none
theorem xfd_ok {o:Nat→Option AO} {t:TypeId} {x:SV} {f:Nat} {r:SV} (h:xfd Θ o t x f=some r) {K:SV→Prop} (hK:K r):fdOp Θ o t x f K:=by
 unfold xfd at h;split at h
 ·cases h
 ·rename_i i hi;split at h
  ·rename_i fs hk;split at h
   ·cases h
   ·rename_i off ft hf;split at h
    ·cases h
    ·rename_i j hj;split at h
     ·cases h
     ·rename_i hz;refine ⟨i,fs,off,ft,j,hi,hk,hf,hj,hz,?_⟩;split at h
      ·split at h
       ·rename_i cs hcs;simp only [Option.some.injEq] at h;subst h;exact ⟨⟨_,hcs⟩,hK⟩
       ·cases h
      ·obtain ⟨y,h1,rfl⟩:=Option.map_eq_some_iff.1 h;exact ⟨y,h1,hK⟩
      ·split at h
       ·rename_i e z xs hcs;simp only [Option.some.injEq] at h;subst h;exact ⟨⟨_,_,_,hcs⟩,hK⟩
       ·cases h
      ·cases h
  ·cases h
def xfv (t:TypeId) (x:SV) (f:Nat):Option SV:=
 match Θ t with
 | none=>none
 | some i=>match i.k with
  | .struct fs=>match fs[f]? with
   | none=>none
   | some (off,ft)=>match Θ ft with
    | none=>none
    | some j=>match x with
     | .d x=>(x.sub off j.sz j.k.agg).map .d
     | _=>none
  | _=>none
theorem xfv_ok {t:TypeId} {x:SV} {f:Nat} {r:SV} (h:xfv Θ t x f=some r) {K:SV→Prop} (hK:K r):fvOp Θ t x f K:=by
 unfold xfv at h;split at h
 ·cases h
 ·rename_i i hi;split at h
  ·rename_i fs hk;split at h
   ·cases h
   ·rename_i off ft hf;split at h
    ·cases h
    ·rename_i j hj;refine ⟨i,fs,off,ft,j,hi,hk,hf,hj,?_⟩;split at h
     ·obtain ⟨y,h1,rfl⟩:=Option.map_eq_some_iff.1 h;exact ⟨y,h1,hK⟩
     ·cases h
  ·cases h
def xix (o:Nat→Option AO) (t:TypeId) (x ix:SV):Option SV:=
 match Θ t with
 | none=>none
 | some i=>match ix with
  | .d (.int _ n)=>if n < 0 then none else match i.k with
   | .slice e=>match Θ e with
    | none=>none
    | some j=>match x with
     | .d (.sl z xs)=>if z=j.sz then (xs[n.toNat]?).map .el else none
     | .row q=>match o q with
      | some (.row _ z xs)=>if z=j.sz∧n.toNat < xs.length then some (.rel q n.toNat 0) else none
      | _=>none
     | _=>none
   | .arr m e=>match Θ e with
    | none=>none
    | some j=>match x with
     | .loc q f=>match o q with
      | some (.box _)=>if n.toNat < m then some (.loc q (f+n.toNat * j.sz)) else none
      | _=>none
     | _=>none
   | _=>none
  | _=>none
theorem xix_ok {o:Nat→Option AO} {t:TypeId} {x ix:SV} {r:SV} (h:xix Θ o t x ix=some r) {K:SV→Prop} (hK:K r):ixOp Θ o t x ix K:=by
 unfold xix at h;split at h
 ·cases h
 ·rename_i i hi;split at h
  ·rename_i k n;split at h
   ·cases h
   ·rename_i hn;split at h
    ·rename_i e hk;split at h
     ·cases h
     ·rename_i j hj;refine ⟨i,e,j,k,n,hi,.inl hk,hj,rfl,by omega,?_⟩;split at h
      ·split at h
       ·rename_i hz;obtain ⟨y,h1,rfl⟩:=Option.map_eq_some_iff.1 h;exact ⟨hk,hz,y,h1,hK⟩
       ·cases h
      ·split at h
       ·split at h
        ·rename_i hz;obtain ⟨rfl,hlt⟩:=hz;simp only [Option.some.injEq] at h;subst h;rename_i hq;exact ⟨hk,_,_,hq,hlt,hK⟩
        ·cases h
       ·cases h
      ·cases h
    ·rename_i m e hk;split at h
     ·cases h
     ·rename_i j hj;split at h
      ·split at h
       ·rename_i hq;split at h
        ·rename_i hlt;simp only [Option.some.injEq] at h;subst h;exact ⟨i,e,j,k,n,hi,.inr ⟨m,hk,hlt⟩,hj,rfl,by omega,⟨m,hk⟩,⟨_,hq⟩,hK⟩
        ·cases h
       ·cases h
      ·cases h
    ·cases h
  ·cases h
def xco (o:Nat→Option AO) (src dst:TypeId) (x:SV):Option SV:=
 match Θ src with
 | none=>none
 | some i=>match Θ dst with
  | none=>none
  | some j=>match x with
   | .d (.int _ n)=>match j.k with
    | .int k'=>some (.d (.int k' (k'.wrap n)))
    | .str=>match i.k with
     | .int _=>some (.d (.str (Utf8.encode n).data.toList))
     | _=>none
    | _=>none
   | .d (.str b)=>match i.k with
    | .str=>match j.k with
     | .str=>some (.d (.str b))
     | .slice e=>match Θ e with
      | none=>none
      | some je=>match je.k with
       | .int .u8=>if b.length≤9223372036854775807 then some (.d (.sl 1 (bytesD b))) else none
       | _=>none
     | _=>none
    | _=>none
   | x=>match j.k with
    | .str=>match i.k with
     | .slice e=>match Θ e with
      | none=>none
      | some je=>match je.k with
       | .int .u8=>match srcOf o 1 x with
        | none=>none
        | some ys=>(byteL ys).map fun b=>.d (.str b)
       | _=>none
     | _=>none
    | _=>none
theorem xco_ok {o:Nat→Option AO} {src dst:TypeId} {x:SV} {r:SV} (h:xco Θ o src dst x=some r) {K:SV→Prop} (hK:K r):coOp Θ o src dst x K:=by
 unfold xco at h;split at h
 ·cases h
 ·rename_i i hi;split at h
  ·cases h
  ·rename_i j hj;refine ⟨i,j,hi,hj,?_⟩;split at h
   ·split at h
    ·rename_i k' hk;simp only [Option.some.injEq] at h;subst h;simp only [hk];exact hK
    ·rename_i hk;split at h
     ·rename_i q hq;simp only [Option.some.injEq] at h;subst h;simp only [hk];exact ⟨⟨q,hq⟩,hK⟩
     ·cases h
    ·cases h
   ·split at h
    ·rename_i hi2;refine ⟨hi2,?_⟩;split at h
     ·rename_i hk;simp only [Option.some.injEq] at h;subst h;simp only [hk];exact hK
     ·rename_i e hk;split at h
      ·cases h
      ·rename_i je he;split at h
       ·rename_i hje;split at h
        ·rename_i hle;simp only [Option.some.injEq] at h;subst h;simp only [hk];exact ⟨⟨je,he,hje⟩,hle,hK⟩
        ·cases h
       ·cases h
     ·cases h
    ·cases h
   ·rename_i x h1 h2;split at h
    ·rename_i hk;split at h
     ·rename_i e hik;split at h
      ·cases h
      ·rename_i je he;split at h
       ·rename_i hje;split at h
        ·cases h
        ·rename_i ys hys;obtain ⟨b,hb,rfl⟩:=Option.map_eq_some_iff.1 h;split
         ·rename_i a b;exact absurd rfl (h1 _ _)
         ·rename_i b;exact absurd rfl (h2 _)
         ·exact ⟨hk,⟨e,je,hik,he,hje⟩,ys,b,hys,hb,hK⟩
       ·cases h
     ·cases h
    ·cases h
theorem mxhi {hi mx:Option SV} (h:mx.isNone=true∨hi.isNone=false):mx=none∨hi≠none:=by cases mx <;> cases hi <;> simp_all
def xsl (o:TM AO) (nk:Nat) (t:TypeId) (x:SV) (lo hi mx:Option SV):Option XR:=
 match Θ t with
 | none=>none
 | some i=>match x with
  | .d (.str b)=>match i.k,mx with
   | .str,none=>match bndO b.length b.length hi with
    | none=>none
    | some h=>match bndO h 0 lo with
     | none=>none
     | some l=>some (.d (.str ((b.take h).drop l)),o,nk)
   | _,_=>none
  | .d .nil=>match i.k with
   | .slice e=>match Θ e,mx,bndO 0 0 hi,bndO 0 0 lo with
    | some _,none,some 0,some 0=>some (.d .nil,o,nk)
    | _,_,_,_=>none
   | _=>none
  | .d (.sl z xs)=>match i.k with
   | .slice e=>match Θ e with
    | none=>none
    | some j=>if j.sz=z∧(mx.isNone=true∨hi.isNone=false) then match bndO xs.length xs.length mx with
     | none=>none
     | some m=>match bndO m m hi with
      | none=>none
      | some h=>match bndO h 0 lo with
       | none=>none
       | some l=>some (.d (.sl z ((xs.take h).drop l)),o,nk)
     else none
   | _=>none
  | .row q=>match i.k with
   | .slice e=>match Θ e with
    | none=>none
    | some j=>match o.get q,mx with
     | some (.row e' z xs),none=>if e'=e∧z=j.sz then match bndO xs.length xs.length hi with
      | none=>none
      | some h=>match bndO h 0 lo with
       | some 0=>some (.row nk,(o.set q none).set nk (some (.row e j.sz (xs.take h))),nk+1)
       | _=>none
      else none
     | _,_=>none
   | _=>none
  | _=>none
theorem xsl_ok {o:TM AO} {nk:Nat} {t:TypeId} {x:SV} {lo hi mx:Option SV} {r:SV} {o':TM AO} {nk':Nat} (h:xsl Θ o nk t x lo hi mx=some (r,o',nk')) {K:SV→(Nat→Option AO)→Nat→Prop} (hK:K r o'.get nk'):slOp Θ o.get nk t x lo hi mx K:=by
 unfold xsl at h;split at h
 ·cases h
 ·rename_i i hi';split at h
  ·split at h
   ·rename_i hk;split at h
    ·cases h
    ·rename_i m hm;split at h
     ·cases h
     ·rename_i l hl;simp only [Option.some.injEq,Prod.mk.injEq] at h;obtain ⟨rfl,rfl,rfl⟩:=h;exact ⟨⟨i,hi',hk⟩,rfl,m,l,hm,hl,hK⟩
   ·cases h
  ·split at h
   ·rename_i e hk;split at h
    ·rename_i j he h1 h2;simp only [Option.some.injEq,Prod.mk.injEq] at h;obtain ⟨rfl,rfl,rfl⟩:=h;exact ⟨⟨i,e,j,hi',hk,he⟩,.inl rfl,rfl,h1,h2,hK⟩
    ·cases h
   ·cases h
  ·split at h
   ·rename_i e hk;split at h
    ·cases h
    ·rename_i j hj;split at h
     ·rename_i hc;split at h
      ·cases h
      ·rename_i m hm;split at h
       ·cases h
       ·rename_i p hp;split at h
        ·cases h
        ·rename_i l hl;simp only [Option.some.injEq,Prod.mk.injEq] at h;obtain ⟨rfl,rfl,rfl⟩:=h;exact ⟨⟨i,e,j,hi',hk,hj,hc.1⟩,mxhi hc.2,m,p,l,hm,hp,hl,hK⟩
     ·cases h
   ·cases h
  ·split at h
   ·rename_i e hk;split at h
    ·cases h
    ·rename_i j hj;split at h
     ·rename_i hq;split at h
      ·rename_i hc;obtain ⟨rfl,rfl⟩:=hc;split at h
       ·cases h
       ·rename_i p hp;split at h
        ·rename_i hl;simp only [Option.some.injEq,Prod.mk.injEq] at h;obtain ⟨rfl,rfl,rfl⟩:=h;rw [TM.get_set,TM.get_set] at hK;exact ⟨i,_,j,_,p,hi',hk,hj,hq,rfl,hp,hl,hK⟩
        ·cases h
      ·cases h
     ·cases h
   ·cases h
  ·cases h
def xbs (o:TM AO) (nk:Nat) (t:TypeId) (n:Nat) (parts:List (Nat×SV)):Option XR:=
  match Θ t with
  | none=>none
  | some i=>match i.k with
    | .slice e=>match Θ e with
      | none=>none
      | some j=>match j.z with
        | none=>none
        | some l=>if l.length=j.sz∧0 < j.sz∧n * j.sz≤16777216 then match partsL j.sz 0 parts with
          | none=>none
          | some xs=>if xs.length=n then
              if n=0 then some (.row nk,o.set nk (some (.row e j.sz xs)),nk+1) else some (.dx j.sz xs,o,nk)
            else none
          else none
    | _=>none
theorem xbs_ok {o:TM AO} {nk:Nat} {t:TypeId} {n:Nat} {parts:List (Nat×SV)} {r:SV} {o':TM AO} {nk':Nat} (h:xbs Θ o nk t n parts=some (r,o',nk')) {K:SV→(Nat→Option AO)→Nat→Prop} (hK:K r o'.get nk'):bsOp Θ o.get nk t n parts K:=by
 unfold xbs at h;split at h
 ·cases h
 ·rename_i i hi;split at h
  ·rename_i e hk;split at h
   ·cases h
   ·rename_i j hj;split at h
    ·cases h
    ·rename_i l hz;split at h
     ·rename_i hc;split at h
      ·cases h
      ·rename_i xs hxs;split at h
       ·rename_i hn;refine ⟨i,e,j,l,xs,hi,hk,hj,hz,hc.1,hc.2.1,hxs,hn,hc.2.2,?_⟩;split at h
        ·rename_i h0;simp only [Option.some.injEq,Prod.mk.injEq] at h;obtain ⟨rfl,rfl,rfl⟩:=h;rw [if_pos h0];rw [TM.get_set] at hK;exact hK
        ·rename_i h0;simp only [Option.some.injEq,Prod.mk.injEq] at h;obtain ⟨rfl,rfl,rfl⟩:=h;rw [if_neg h0];exact .inr (.inl hK)
       ·cases h
     ·cases h
  ·cases h
def xbu (t:TypeId) (parts:List (Nat×SV)):Option SV:=
 match Θ t with
 | none=>none
 | some i=>match i.k with
  | .struct fs=>match i.z with
   | none=>none
   | some l=>(fillL (placeOf Θ fs) l parts).map fun ds=>.d (.agg ds)
  | _=>none
theorem xbu_ok {t:TypeId} {parts:List (Nat×SV)} {r:SV} (h:xbu Θ t parts=some r) {K:SV→Prop} (hK:K r):buOp Θ t parts K:=by
 unfold xbu at h;split at h
 ·cases h
 ·rename_i i hi;split at h
  ·rename_i fs hk;split at h
   ·cases h
   ·rename_i l hz;obtain ⟨ds,hd,rfl⟩:=Option.map_eq_some_iff.1 h;exact ⟨i,fs,l,ds,hi,hk,hz,hd,hK⟩
  ·cases h
def isStr:TK→Bool
 | .str=>true
 | _=>false
def isSl:TK→Bool
 | .slice _=>true
 | _=>false
theorem isStr_ok {k:TK} (h:isStr k=true):k=.str:=by cases k <;> simp_all [isStr]
theorem isSl_ok {k:TK} (h:isSl k=true):∃ e,k=.slice e:=by cases k <;> simp_all [isSl]
def xle (o:Nat→Option AO) (ts:List TypeId) (x:SV):Option SV:=
  match ts with
  | [t]=>match Θ t with
    | none=>none
    | some i=>match (match x with
        | .d (.str _)=>isStr i.k
        | _=>isSl i.k) with
      | true=>(lenD o x).map fun (n:Nat)=>SV.d (.int .i64 (n:Int))
      | false=>none
  | _=>none
theorem xle_ok {o:Nat→Option AO} {ts:Array TypeId} {x:SV} {r:SV} (h:xle Θ o ts.toList x=some r) {K:SV→Prop} (hK:K r):leOp Θ o ts x K:=by
 unfold xle at h;split at h
 ·rename_i t ht;have hts:ts=#[t]:=by cases ts;simp_all
  split at h
  ·cases h
  ·rename_i i hi;split at h
   ·rename_i hc;obtain ⟨n,hn,rfl⟩:=Option.map_eq_some_iff.1 h;refine ⟨t,i,hts,hi,?_,n,hn,hK⟩;split at hc
    ·exact isStr_ok hc
    ·rename_i hx;split
     ·rename_i b;exact absurd rfl (hx b)
     ·exact isSl_ok hc
   ·cases h
 ·cases h
def xap (o:TM AO) (nk:Nat) (ts:List TypeId) (x y:SV):Option XR:=
  match ts with
  | [t,u]=>match Θ t with
    | none=>none
    | some i=>match i.k with
      | .slice e=>match Θ e with
        | none=>none
        | some j=>match j.z with
          | none=>none
          | some l=>match dstOf o.get e j.sz x with
            | none=>none
            | some (q,xs)=>match (match y with
                | .d (.str b)=>match Θ u with
                  | none=>none
                  | some v=>match v.k,j.k,l with
                    | .str,.int .u8,[.int .u8 0]=>if j.sz=1∧j.bys=1 then some (b.map fun (c:UInt8)=>D.int .u8 (c.toNat:Int)) else none
                    | _,_,_=>none
                | y=>if u=t then srcOf o.get j.sz y else none) with
              | none=>none
              | some ys=>if l.length=j.sz∧0 < j.sz∧xs.length+ys.length≤9223372036854775807∧(xs.length+ys.length) * j.bys≤140737488355328 then
                  some (.row nk,(match q with
                    | none=>o
                    | some t=>o.set t none).set nk (some (.row e j.sz (xs++ys))),nk+1)
                else none
      | _=>none
  | _=>none
theorem xap_ok {o:TM AO} {nk:Nat} {ts:Array TypeId} {x y:SV} {r:SV} {o':TM AO} {nk':Nat} (h:xap Θ o nk ts.toList x y=some (r,o',nk')) {K:SV→(Nat→Option AO)→Nat→Prop} (hK:K r o'.get nk'):apOp Θ o.get nk ts x y K:=by
 unfold xap at h;split at h
 ·rename_i t u ht;have hts:ts=#[t,u]:=by cases ts;simp_all
  split at h
  ·cases h
  ·rename_i i hi;split at h
   ·rename_i e hk;split at h
    ·cases h
    ·rename_i j hj;split at h
     ·cases h
     ·rename_i l hz;split at h
      ·cases h
      ·rename_i q xs hd;split at h
       ·cases h
       ·rename_i ys hys;split at h
        ·rename_i hc;simp only [Option.some.injEq,Prod.mk.injEq] at h;obtain ⟨rfl,rfl,rfl⟩:=h;refine ⟨t,u,i,e,j,l,q,xs,ys,hts,hi,hk,hj,hz,hc.1,hc.2.1,hd,?_,hc.2.2.1,hc.2.2.2,?_⟩
         ·split at hys
          ·split at hys
           ·cases hys
           ·rename_i v hv;split at hys
            ·rename_i _ h1 h2;split at hys
             ·rename_i h4;simp only [Option.some.injEq] at hys;subst hys;exact ⟨⟨v,hv,h1⟩,h2,h4.1,h4.2,rfl,rfl⟩
             ·cases hys
            ·cases hys
          ·rename_i hx;split at hys
           ·rename_i hu;split
            ·rename_i b;exact absurd rfl (hx b)
            ·exact ⟨hu,hys⟩
           ·cases hys
         ·rw [TM.get_set] at hK;cases q with
          | none=>exact hK
          | some q=>rw [TM.get_set] at hK;exact hK
        ·cases h
   ·cases h
 ·cases h
def xev (s:XS):Operand→SV
 | .tmp t=>match s.sl.get t with
  | some v=>v
  | none=>.any
 | .const v=>cst v
 | .func f=>.clo f [] []
 | .global _=>.any
theorem xev_eq (s:XS) (x:Operand):xev s x=ev s.st.sl x:=by
 cases x <;> simp only [xev,ev,XS.st]
 split <;> simp_all
def itAt:RO→Option (List UInt8×Nat)
 | .ob (.stringIter b pos)=>some (b.data.toList,pos)
 | _=>none
theorem itAt_ok {ob:RO} {l:List UInt8} {pos:Nat} (h:itAt ob=some (l,pos)):ob=itOb l pos:=by
 unfold itAt at h;split at h
 ·rename_i b p;simp only [Option.some.injEq,Prod.mk.injEq] at h;obtain ⟨rfl,rfl⟩:=h;obtain ⟨⟨a⟩⟩:=b;rfl
 ·cases h
def xOp0 (op:Op) (s:XS):Option XR:=
 match op with
 | .move x=>some (xev s x,s.o,s.nk)
 | .assign x=>some (xev s x,s.o,s.nk)
 | .pick c x y=>match xev s c with
  | .d (.bool true)=>some (xev s x,s.o,s.nk)
  | .d (.bool false)=>some (xev s y,s.o,s.nk)
  | _=>none
 | .alloc e=>match Θ e with
  | none=>none
  | some i=>match i.z with
   | none=>none
   | some l=>some (.loc s.nk 0,s.o.set s.nk (some (.box (l.map .d))),s.nk+1)
 | .box e x=>match (xev s x).cells s.o.get with
  | none=>none
  | some cs=>some (.loc s.nk 0,s.o.set s.nk (some (.box cs)),s.nk+1)
 | .build t parts=>(xbu Θ t (parts.toList.map fun p=>(p.1,xev s p.2))).map fun v=>(v,s.o,s.nk)
 | .buildSlice t n parts=>xbs Θ s.o s.nk t n (parts.toList.map fun p=>(p.1,(xev s p.2)))
 | .load t x=>(xld Θ s.o.get t (xev s x)).map fun v=>(v,s.o,s.nk)
 | .store t x y=>(xst Θ s.o t (xev s x) (xev s y)).map fun o'=>(.any,o',s.nk)
 | .nilCheck x=>match xev s x with
  | .loc k f=>match s.o.get k with
   | some (.box _)=>some (.loc k f,s.o,s.nk)
   | _=>none
  | .el x=>some (.el x,s.o,s.nk)
  | .clo a b c=>some (.clo a b c,s.o,s.nk)
  | _=>none
 | .binOp b t x y _=>(xbn Θ s.o.get b t (xev s x) (xev s y)).map fun v=>(.d v,s.o,s.nk)
 | .unOp b _ x=>(unOpD b (xev s x)).map fun v=>(.d v,s.o,s.nk)
 | .convert src dst x=>(xco Θ s.o.get src dst (xev s x)).map fun v=>(v,s.o,s.nk)
 | .makeFunc fn fs cs=>match fn with
  | .func f=>some (.clo f (fs.toList.map (xev s)) (cs.toList.map (xev s)),s.o,s.nk)
  | _=>none
 | .slice t x lo hi mx=>xsl Θ s.o s.nk t (xev s x) (lo.map (xev s)) (hi.map (xev s)) (mx.map (xev s))
 | .fieldAddr t x f=>(xfd Θ s.o.get t (xev s x) f).map fun v=>(v,s.o,s.nk)
 | .field t x f=>(xfv Θ t (xev s x) f).map fun v=>(v,s.o,s.nk)
 | .indexAddr t x ix=>(xix Θ s.o.get t (xev s x) (xev s ix)).map fun v=>(v,s.o,s.nk)
 | .index t x ix=>match Θ t with
  | none=>none
  | some i=>match i.k,xev s x,xev s ix with
   | .str,.d (.str l),.d (.int _ n)=>if 0≤n∧n.toNat < l.length then some (.d (.int .u8 (bAt l n.toNat)),s.o,s.nk) else none
   | _,_,_=>none
 | .extract x q=>match xev s x with
  | .tup xs=>(xs[q]?).map fun c=>(c,s.o,s.nk)
  | _=>none
 | .call c=>match c.callee with
  | .builtin b=>match b,c.args.toList with
   | .len,[x]=>(xle Θ s.o.get c.argTypes.toList (xev s x)).map fun v=>(v,s.o,s.nk)
   | .append,[x,y]=>xap Θ s.o s.nk c.argTypes.toList (xev s x) (xev s y)
   | .max,[x,y]=>(mmD true (xev s x) (xev s y)).map fun v=>(.d v,s.o,s.nk)
   | .min,[x,y]=>(mmD false (xev s x) (xev s y)).map fun v=>(.d v,s.o,s.nk)
   | _,_=>none
  | .value x=>match xev s x with
   | .clo f fs cs=>call f (fs++c.args.toList.map (xev s)++cs) s.o s.nk
   | _=>none
  | _=>none
 | .range t x=>match Θ t with
  | none=>none
  | some i=>match i.k,xev s x with
   | .str,.d (.str l)=>some (.raw s.nk,s.o.set s.nk (some (.raw (itOb l 0))),s.nk+1)
   | _,_=>none
 | .next x true=>match xev s x with
  | .raw k=>match s.o.get k with
   | some (.raw ob)=>match itAt ob with
    | none=>none
    | some (l,pos)=>if pos < l.length then some (.tup [.d (.bool true),.d (.int .i64 pos),.d (.int .i32 (Utf8.decode ⟨l.toArray⟩ pos).1)],s.o.set k (some (.raw (itOb l (pos+(Utf8.decode ⟨l.toArray⟩ pos).2)))),s.nk)
     else some (.tup [.d (.bool false)],s.o,s.nk)
   | _=>none
  | _=>none
 | _=>none
end
theorem xOp0_ok {P:Program} {Θ:Tab} {call:Nat→List SV→TM AO→Nat→Option XR} (hc:∀ f asx o nk r o' nk',call f asx o nk=some (r,o',nk')→Spec P f asx o.get nk fun r2 o2 n2=>r2=r∧o2=o'.get∧n2=nk')
    {op:Op} {s:XS} {r:SV} {o':TM AO} {nk':Nat} (h:xOp0 Θ call op s=some (r,o',nk')) {K:SV→(Nat→Option AO)→Nat→Prop} (hK:K r o'.get nk'):vOp0 P Θ op s.st K:=by
  have hev:∀ x,xev s x=ev s.st.sl x:=xev_eq s;have hev2:xev s=ev s.st.sl:=funext hev;have ho:s.st.o=s.o.get:=rfl;have hn:s.st.nk=s.nk:=rfl;have mp:∀ {α:Type} {x:Option α} {f:α→XR},x.map f=some (r,o',nk')→∃ v,x=some v∧f v=(r,o',nk'):=fun h=>by simpa using h
  unfold xOp0 at h;simp only [hev2] at h;cases op with
  | move x=>simp only [Option.some.injEq,Prod.mk.injEq] at h;obtain ⟨rfl,rfl,rfl⟩:=h;exact hK
  | assign x=>simp only [Option.some.injEq,Prod.mk.injEq] at h;obtain ⟨rfl,rfl,rfl⟩:=h;exact hK
  | pick c x y=>
    simp only at h;split at h
    · rename_i hb;simp only [Option.some.injEq,Prod.mk.injEq] at h;obtain ⟨rfl,rfl,rfl⟩:=h;exact ⟨true,hb,hK⟩
    · rename_i hb;simp only [Option.some.injEq,Prod.mk.injEq] at h;obtain ⟨rfl,rfl,rfl⟩:=h;exact ⟨false,hb,hK⟩
    · cases h
  | alloc e=>
    simp only at h;split at h
    · cases h
    · rename_i i hi;split at h
      · cases h
      · rename_i l hz;simp only [Option.some.injEq,Prod.mk.injEq] at h;obtain ⟨rfl,rfl,rfl⟩:=h;rw [TM.get_set] at hK;exact ⟨i,l,hi,hz,hK⟩
  | box e x=>
    simp only at h;split at h
    · cases h
    · rename_i cs hcs;simp only [Option.some.injEq,Prod.mk.injEq] at h;obtain ⟨rfl,rfl,rfl⟩:=h;rw [TM.get_set] at hK;exact ⟨cs,hcs,hK⟩
  | build t parts=>
    simp only at h;obtain ⟨v,h1,h2⟩:=mp h;simp only [Prod.mk.injEq] at h2;obtain ⟨rfl,rfl,rfl⟩:=h2;exact xbu_ok Θ h1 (K:=fun v=>K v s.st.o s.st.nk) hK
  | buildSlice t n parts=>exact xbs_ok Θ h hK
  | load t x=>
    simp only at h;obtain ⟨v,h1,h2⟩:=mp h;simp only [Prod.mk.injEq] at h2;obtain ⟨rfl,rfl,rfl⟩:=h2;exact xld_ok Θ h1 (K:=fun v=>K v s.st.o s.st.nk) hK
  | store t x y=>
    simp only at h;obtain ⟨v,h1,h2⟩:=mp h;simp only [Prod.mk.injEq] at h2;obtain ⟨rfl,rfl,rfl⟩:=h2;exact xst_ok Θ h1 (K:=fun o'=>K .any o' s.st.nk) hK
  | nilCheck x=>
    simp only at h;split at h
    · rename_i k f hx;split at h
      · rename_i cs hcs;simp only [Option.some.injEq,Prod.mk.injEq] at h;obtain ⟨rfl,rfl,rfl⟩:=h;exact ⟨by rw [hx];exact ⟨_,hcs⟩,by rw [hx];exact hK⟩
      · cases h
    · rename_i y hx;simp only [Option.some.injEq,Prod.mk.injEq] at h;obtain ⟨rfl,rfl,rfl⟩:=h;exact ⟨by rw [hx];trivial,by rw [hx];exact hK⟩
    · rename_i a b c hx;simp only [Option.some.injEq,Prod.mk.injEq] at h;obtain ⟨rfl,rfl,rfl⟩:=h;exact ⟨by rw [hx];trivial,by rw [hx];exact hK⟩
    · cases h
  | binOp b t x y u=>
    simp only at h;obtain ⟨v,h1,h2⟩:=mp h;simp only [Prod.mk.injEq] at h2;obtain ⟨rfl,rfl,rfl⟩:=h2;exact xbn_ok Θ h1 (K:=fun v=>K v s.st.o s.st.nk) hK
  | unOp b t x=>
    simp only at h;obtain ⟨v,h1,h2⟩:=mp h;simp only [Prod.mk.injEq] at h2;obtain ⟨rfl,rfl,rfl⟩:=h2;exact ⟨v,h1,hK⟩
  | convert src dst x=>
    simp only at h;obtain ⟨v,h1,h2⟩:=mp h;simp only [Prod.mk.injEq] at h2;obtain ⟨rfl,rfl,rfl⟩:=h2;exact xco_ok Θ h1 (K:=fun v=>K v s.st.o s.st.nk) hK
  | makeFunc fn fs cs=>
    cases fn with
    | func f=>
      simp only [Option.some.injEq,Prod.mk.injEq] at h;obtain ⟨rfl,rfl,rfl⟩:=h;exact hK
    | _=>cases h
  | slice t x lo hi mx=>exact xsl_ok Θ h hK
  | fieldAddr t x f=>
    simp only at h;obtain ⟨v,h1,h2⟩:=mp h;simp only [Prod.mk.injEq] at h2;obtain ⟨rfl,rfl,rfl⟩:=h2;exact xfd_ok Θ h1 (K:=fun v=>K v s.st.o s.st.nk) hK
  | field t x f=>
    simp only at h;obtain ⟨v,h1,h2⟩:=mp h;simp only [Prod.mk.injEq] at h2;obtain ⟨rfl,rfl,rfl⟩:=h2;exact xfv_ok Θ h1 (K:=fun v=>K v s.st.o s.st.nk) hK
  | indexAddr t x ix=>
    simp only at h;obtain ⟨v,h1,h2⟩:=mp h;simp only [Prod.mk.injEq] at h2;obtain ⟨rfl,rfl,rfl⟩:=h2;exact xix_ok Θ h1 (K:=fun v=>K v s.st.o s.st.nk) hK
  | index t x ix=>
    simp only at h;split at h
    · cases h
    · rename_i i hi;split at h
      · rename_i h1 h2 h3;split at h
        · rename_i hb;simp only [Option.some.injEq,Prod.mk.injEq] at h;obtain ⟨rfl,rfl,rfl⟩:=h;exact ⟨i,_,_,_,hi,h1,h2,h3,hb.1,hb.2,hK⟩
        · cases h
      · cases h
  | extract x q=>
    simp only at h;split at h
    · rename_i xs hx;obtain ⟨v,h1,h2⟩:=mp h;simp only [Prod.mk.injEq] at h2;obtain ⟨rfl,rfl,rfl⟩:=h2;exact ⟨xs,_,hx,h1,hK⟩
    · cases h
  | call c=>
    obtain ⟨callee,asx,ts⟩:=c;simp only at h;cases callee with
    | builtin b=>
      simp only at h;show blOp Θ s.st b ts asx.toList K;split at h
      · rename_i x hx;obtain ⟨v,h1,h2⟩:=mp h;simp only [Prod.mk.injEq] at h2;obtain ⟨rfl,rfl,rfl⟩:=h2;rw [hx];exact xle_ok Θ h1 (K:=fun v=>K v s.st.o s.st.nk) hK
      · rename_i x y hx;rw [hx];exact xap_ok Θ h hK
      · rename_i x y hx;obtain ⟨v,h1,h2⟩:=mp h;simp only [Prod.mk.injEq] at h2;obtain ⟨rfl,rfl,rfl⟩:=h2;rw [hx];exact ⟨v,h1,hK⟩
      · rename_i x y hx;obtain ⟨v,h1,h2⟩:=mp h;simp only [Prod.mk.injEq] at h2;obtain ⟨rfl,rfl,rfl⟩:=h2;rw [hx];exact ⟨v,h1,hK⟩
      · cases h
    | value x=>
      simp only at h;split at h
      · rename_i f fs cs hx;refine ⟨f,fs,cs,hx,?_⟩;exact (hc _ _ _ _ _ _ _ h).mono (by rintro r2 o2 n2 ⟨rfl,rfl,rfl⟩;exact hK)
      · cases h
    | _=>cases h
  | range t x=>
    simp only at h;split at h
    · cases h
    · rename_i i hi;split at h
      · rename_i h1 h2;simp only [Option.some.injEq,Prod.mk.injEq] at h;obtain ⟨rfl,rfl,rfl⟩:=h;rw [TM.get_set] at hK;exact ⟨i,_,hi,h1,h2,hK⟩
      · cases h
  | next x b=>
    cases b with
    | false=>cases h
    | true=>
      simp only at h;split at h
      · rename_i k hx;split at h
        · rename_i ob hq;split at h
          · cases h
          · rename_i l pos hit;have hob:=itAt_ok hit;subst hob;split at h
            · rename_i hlt;simp only [Option.some.injEq,Prod.mk.injEq] at h;obtain ⟨rfl,rfl,rfl⟩:=h;rw [TM.get_set] at hK;refine ⟨rfl,k,l,pos,hx,hq,?_⟩;rw [if_pos hlt];exact hK
            · rename_i hlt;simp only [Option.some.injEq,Prod.mk.injEq] at h;obtain ⟨rfl,rfl,rfl⟩:=h;refine ⟨rfl,k,l,pos,hx,hq,?_⟩;rw [if_neg hlt];exact hK
        · cases h
      · cases h
  | _=>cases h
def setO2 (o:TM AO):List (Nat×Option AO)→TM AO
 | []=>o
 | (k,x) :: r=>setO2 (o.set k x) r
theorem setO2_get:∀ (l:List (Nat×Option AO)) (o:TM AO),(setO2 o l).get=upds o.get l
 | [],o=>rfl
 | (k,x) :: r,o=>by rw [setO2,setO2_get r,TM.get_set];rfl
def xOp (Θ:Tab) (call:Nat→List SV→TM AO→Nat→Option XR) (op:Op) (s:XS):Option XR:=
 match nQ Θ op (xev s) s.o.get with
 | some v=>some (v,s.o,s.nk)
 | none=>match nW0 Θ op (xev s) s.o.get s.nk with
  | some (v,l,nk')=>some (v,setO2 s.o l,nk')
  | none=>match xOp0 Θ call op s with
   | some r=>some r
   | none=>match nWF Θ op (xev s) s.o.get s.nk op.operands.toList with
    | some (v,l,nk')=>some (v,setO2 s.o l,nk')
    | none=>none
theorem xOp_ok {P:Program} {Θ:Tab} {call:Nat→List SV→TM AO→Nat→Option XR} (hc:∀ f asx o nk r o' nk',call f asx o nk=some (r,o',nk')→Spec P f asx o.get nk fun r2 o2 n2=>r2=r∧o2=o'.get∧n2=nk')
    {op:Op} {s:XS} {r:SV} {o':TM AO} {nk':Nat} (h:xOp Θ call op s=some (r,o',nk')) {K:SV→(Nat→Option AO)→Nat→Prop} (hK:K r o'.get nk'):vOp P Θ op s.st K:=by
  have hev:xev s=ev s.st.sl:=funext (xev_eq s);unfold xOp at h;rw [hev] at h;split at h
  · rename_i v hv;simp only [Option.some.injEq,Prod.mk.injEq] at h;obtain ⟨rfl,rfl,rfl⟩:=h;exact .inr (.inl ⟨_,hv,hK⟩)
  · split at h
    · rename_i v l nk2 hv;simp only [Option.some.injEq,Prod.mk.injEq] at h;obtain ⟨rfl,rfl,rfl⟩:=h;refine .inr (.inr ⟨_,nW_of0 hv,?_⟩);rw [setO2_get] at hK;exact hK
    · rename_i hn;split at h
      · rename_i r0 h0;simp only [Option.some.injEq] at h;subst h;exact .inl (xOp0_ok hc h0 hK)
      · split at h
        · rename_i v l nk2 hv;simp only [Option.some.injEq,Prod.mk.injEq] at h;obtain ⟨rfl,rfl,rfl⟩:=h;refine .inr (.inr ⟨_,nW_ofF hn hv,?_⟩);rw [setO2_get] at hK;exact hK
        · cases h
end Go.Proofs.YtpkcbdhjnnnkbaaGreat.Abs

namespace Go.Proofs.YtpkcbdhjnnnkbaaGreat.Abs
open Go
mutual
def D.eqb:D→D→Bool
 | .int k n,.int k2 n2=>decide (k=k2) && decide (n=n2)
 | .bool a,.bool b=>a == b
 | .str s,.str t=>decide (s=t)
 | .sl z xs,.sl z2 ys=>decide (z=z2) && D.eqbs xs ys
 | .agg xs,.agg ys=>D.eqbs xs ys
 | .nilp,.nilp=>true
 | .nil,.nil=>true
 | .nilk a,.nilk b=>decide (a=b)
 | _,_=>false
def D.eqbs:List D→List D→Bool
 | [],[]=>true
 | x :: xs,y :: ys=>D.eqb x y && D.eqbs xs ys
 | _,_=>false
end
mutual
theorem D.eqb_ok:∀ x y:D,D.eqb x y=true→x=y
 | .int k n,y,h=>by cases y <;> simp [D.eqb] at h;obtain ⟨rfl,rfl⟩:=h;rfl
 | .bool a,y,h=>by cases y <;> simp [D.eqb] at h;subst h;rfl
 | .str s,y,h=>by cases y <;> simp [D.eqb] at h;subst h;rfl
 | .sl z xs,y,h=>by
  cases y <;> simp [D.eqb] at h
  obtain ⟨rfl,h⟩:=h;rw [D.eqbs_ok xs _ h]
 | .agg xs,y,h=>by
  cases y <;> simp [D.eqb] at h
  rw [D.eqbs_ok xs _ h]
 | .nilp,y,h=>by cases y <;> simp [D.eqb] at h;rfl
 | .nil,y,h=>by cases y <;> simp [D.eqb] at h;rfl
 | .nilk k,y,h=>by cases y <;> simp [D.eqb] at h;subst h;rfl
theorem D.eqbs_ok:∀ xs ys:List D,D.eqbs xs ys=true→xs=ys
 | [],[],_=>rfl
 | [],y :: ys,h=>by simp [D.eqbs] at h
 | x :: xs,[],h=>by simp [D.eqbs] at h
 | x :: xs,y :: ys,h=>by
  simp only [D.eqbs,Bool.and_eq_true] at h;rw [D.eqb_ok x y h.1,D.eqbs_ok xs ys h.2]
end
mutual
def SV.eqb:SV→SV→Bool
 | .d x,.d y=>D.eqb x y
 | .loc a1 b1,.loc a2 b2=>decide (a1=a2) && decide (b1=b2)
 | .row a1,.row a2=>decide (a1=a2)
 | .el x,.el y=>D.eqb x y
 | .rel a1 b1 c1,.rel a2 b2 c2=>decide (a1=a2) && decide (b1=b2) && decide (c1=c2)
 | .raw a1,.raw a2=>decide (a1=a2)
 | .view a1 b1 c1 e1,.view a2 b2 c2 e2=>decide (a1=a2) && decide (b1=b2) && decide (c1=c2) && decide (e1=e2)
 | .dx z xs,.dx z2 ys=>decide (z=z2) && D.eqbs xs ys
 | .tup xs,.tup ys=>SV.eqbs xs ys
 | .ag xs,.ag ys=>SV.eqbs xs ys
 | .clo f a b,.clo g a2 b2=>decide (f=g) && SV.eqbs a a2 && SV.eqbs b b2
 | .any,.any=>true
 | _,_=>false
def SV.eqbs:List SV→List SV→Bool
 | [],[]=>true
 | x :: xs,y :: ys=>SV.eqb x y && SV.eqbs xs ys
 | _,_=>false
end
mutual
theorem SV.eqb_ok:∀ {x y:SV},SV.eqb x y=true→x=y
 | .d x,y,h=>by cases y <;> simp [SV.eqb] at h;rw [D.eqb_ok _ _ h]
 | .loc a b,y,h=>by cases y <;> simp [SV.eqb] at h;obtain ⟨rfl,rfl⟩:=h;rfl
 | .row a,y,h=>by cases y <;> simp [SV.eqb] at h;subst h;rfl
 | .el x,y,h=>by cases y <;> simp [SV.eqb] at h;rw [D.eqb_ok _ _ h]
 | .rel a b c,y,h=>by cases y <;> simp [SV.eqb] at h;obtain ⟨⟨rfl,rfl⟩,rfl⟩:=h;rfl
 | .raw a,y,h=>by cases y <;> simp [SV.eqb] at h;subst h;rfl
 | .view a b c e,y,h=>by cases y <;> simp [SV.eqb] at h;obtain ⟨⟨⟨rfl,rfl⟩,rfl⟩,rfl⟩:=h;rfl
 | .dx z xs,y,h=>by cases y <;> simp [SV.eqb] at h;obtain ⟨rfl,h⟩:=h;rw [D.eqbs_ok _ _ h]
 | .tup xs,y,h=>by cases y <;> simp [SV.eqb] at h;rw [SV.eqbs_ok h]
 | .ag xs,y,h=>by cases y <;> simp [SV.eqb] at h;rw [SV.eqbs_ok h]
 | .clo f a b,y,h=>by cases y <;> simp [SV.eqb] at h;obtain ⟨⟨rfl,h1⟩,h2⟩:=h;rw [SV.eqbs_ok h1,SV.eqbs_ok h2]
 | .any,y,h=>by cases y <;> first | rfl | (simp [SV.eqb] at h)
theorem SV.eqbs_ok:∀ {xs ys:List SV},SV.eqbs xs ys=true→xs=ys
 | [],[],_=>rfl
 | [],y :: ys,h=>by simp [SV.eqbs] at h
 | x :: xs,[],h=>by simp [SV.eqbs] at h
 | x :: xs,y :: ys,h=>by
  simp only [SV.eqbs,Bool.and_eq_true] at h;rw [SV.eqb_ok h.1,SV.eqbs_ok h.2]
end
def XS.frz (s:XS) (t:Nat):XS:=
 match s.o.get t with
 | some (.row _ z xs)=>⟨s.sl.mapT (SV.frz t (.sl z xs)),(s.o.mapT (AO.frz t (.sl z xs))).set t none,s.nk⟩
 | _=>s
theorem XS.frz_ok {E:Ent} {s:XS} {a:Act} {w:World} (t:Nat) (h:Rel E s.st a w):Rel E (s.frz t).st a w:=by
 unfold XS.frz;split
 ·rename_i e z xs ht;have:=h.freezeA 0 (t:=t) (e:=e) (z:=z) (xs:=xs) ht;have e1:(XS.st ⟨s.sl.mapT (SV.frz t (.sl z xs)),(s.o.mapT (AO.frz t (.sl z xs))).set t none,s.nk⟩)={ sl:=fun u=>(s.st.sl u).frz t (.sl z xs),o:=frzo 0 s.st.o t (.sl z xs),nk:=s.st.nk }:=by
   simp only [XS.st,St.mk.injEq,and_true];constructor
   ·funext u;rw [TM.get_mapT];cases s.sl.get u <;> rfl
   ·rw [TM.get_set];funext u;simp only [upd,frzo,TM.get_mapT];split
    ·rfl
    ·simp
  rw [e1];exact this
 ·exact h
def XS.frzs (s:XS):List Nat→XS
 | []=>s
 | t :: r=>(s.frz t).frzs r
theorem XS.frzs_ok {E:Ent} {a:Act} {w:World}:∀ (l:List Nat) {s:XS},Rel E s.st a w→Rel E (s.frzs l).st a w
 | [],s,h=>h
 | t :: r,s,h=>frzs_ok r (s.frz_ok t h)
def rowsV:SV→List Nat
 | .row t=>[t]
 | .rel t _ _=>[t]
 | .view t _ _ _=>[t]
 | _=>[]
def rowsL:List SV→List Nat
 | []=>[]
 | c :: r=>rowsV c++rowsL r
def rowsO (o:TM AO):SV→List Nat
 | .row t=>[t]
 | .rel t _ _=>[t]
 | .view t _ _ _=>[t]
 | .loc t _=>match o.get t with
  | some (.box cs)=>rowsL cs
  | _=>[]
 | .tup cs=>rowsL cs
 | _=>[]
section
variable (Θ:Tab) (nofr:Nat→Bool) (call:Nat→List SV→TM AO→Nat→Option XR)
def putD (sl:TM SV) (d:Option Nat) (v:SV):TM SV:=
 match d with
 | some d=>sl.set d (some v)
 | none=>sl
theorem putD_ok (sl:TM SV) (d:Option Nat) (v:SV):(fun u=>((putD sl d v).get u).getD .any)=pt (fun u=>(sl.get u).getD .any) d v:=by
 cases d with
 | none=>rfl
 | some d=>
  simp only [putD,pt,TM.get_set];funext u;simp only [upd];split <;> rfl
theorem put_st (s:XS) (d:Option Nat) (v:SV) (o:TM AO) (nk:Nat):(XS.mk (putD s.sl d v) o nk).st={ sl:=pt s.st.sl d v,o:=o.get,nk:=nk }:=by
 simp only [XS.st,putD_ok]
def xGuard (ops:Array Oper) (sl:TM SV):Option (Nat×Bool)→Option Bool
 | none=>some true
 | some (j,want)=>match (ops[j]?).bind (·.dst) with
  | none=>none
  | some d=>match sl.get d with
   | some (.d (.bool b))=>some (if want=true then b else !b)
   | some (.tup [])=>some false
   | _=>none
theorem xGuard_ok {ops:Array Oper} {s:XS} {g:Option (Nat×Bool)} {c:Bool} (h:xGuard ops s.sl g=some c):gdc ops s.st g c:=by
 unfold xGuard at h;split at h
 ·simp only [Option.some.injEq] at h;exact h.symm
 ·rename_i j want;split at h
  ·cases h
  ·rename_i d hd;have hg:gsl ops s.st j=(s.sl.get d).getD .any:=by unfold gsl;rw [hd];rfl
   show GC (gsl ops s.st j) want c;split at h
   ·rename_i b hb;simp only [Option.some.injEq] at h;subst h;rw [hg,hb];exact .inl ⟨b,rfl,rfl⟩
   ·rename_i hb;simp only [Option.some.injEq] at h;subst h;rw [hg,hb];exact .inr ⟨false,true,by rw [cnd_F];rfl,rfl⟩
   ·cases h
def callF:Op→Option Nat
 | .call c=>match c.callee with
  | .value (.func f)=>some f
  | _=>none
 | _=>none
def opVals (op:Op) (s:XS):List SV:=op.operands.toList.map (xev s)
def preF (op:Op) (s:XS):List Nat:=
 match callF op with
 | some f=>bif nofr f then [] else rowsL (opVals op s)
 | none=>[]
def postF (op:Op) (s:XS):List Nat:=
 match op with
 | .store _ _ y=>rowsO s.o (xev s y)
 | op=>(opVals op s).flatMap (rowsO s.o)
def XS.soft (s:XS):XS:=⟨s.sl.mapT SV.soft,s.o,s.nk⟩
theorem XS.soft_ok {E:Ent} {s:XS} {a:Act} {w:World} (h:Rel E s.st a w):Rel E s.soft.st a w:=by
 obtain ⟨S,γ,h⟩:=h;have e:∀ u,(s.soft.st.sl u)=(s.st.sl u).soft:=fun u=>by
  simp only [XS.soft,XS.st,TM.get_mapT];cases s.sl.get u <;> rfl
 exact ⟨S,γ,h.sto,h.tr,fun u=>by rw [e];exact (h.sl u).soft,fun u=>by rw [e];exact SV.soft_lt (h.slt u),h.df,h.nn⟩
def xStep (ops:Array Oper) (op:Oper) (s:XS):Option XS:=
 match xGuard ops s.sl op.guard with
 | none=>none
 | some false=>some ⟨putD s.sl op.dst (.tup []),s.o,s.nk⟩
 | some true=>match s.frzs (preF nofr op.op s) with
  | s1=>match xOp Θ call op.op s1 with
   | some (v,o',nk')=>some ⟨putD s1.sl op.dst v,o',nk'⟩
   | none=>match (s1.frzs (postF op.op s1)).soft with
    | s2=>match xOp Θ call op.op s2 with
     | some (v,o',nk')=>some ⟨putD s2.sl op.dst v,o',nk'⟩
     | none=>none
def xOps (ops:Array Oper):List Oper→XS→Option XS
 | [],s=>some s
 | op :: r,s=>match xStep Θ nofr call ops op s with
  | some s'=>xOps ops r s'
  | none=>none
end
section
variable {P:Program} {Θ:Tab} {nofr:Nat→Bool} {call:Nat→List SV→TM AO→Nat→Option XR}
def CallOk (P:Program) (call:Nat→List SV→TM AO→Nat→Option XR):Prop:=∀ f asx o nk r o' nk',call f asx o nk=some (r,o',nk')→Spec P f asx o.get nk fun r2 o2 n2=>r2=r∧o2=o'.get∧n2=nk'
theorem gdc_wanted {E:Ent} {s:St} {a:Act} {w:World} {ops:Array Oper} {o:Oper} {c:Bool} (hr:Rel E s a w) (h:gdc ops s o.guard c):Region.wanted o (yielded ops a.tmps)=c:=by
 unfold gdc at h;unfold Region.wanted;split at h
 ·rename_i hg;rw [hg];exact h.symm
 ·rename_i j want hg;rw [hg];exact guard_yield hr h
theorem xStep_ok (hΘ:TabOk P Θ) (hc:CallOk P call) {E:Ent} {ops:Array Oper} {op:Oper} {s s':XS} {a:Act} {w:World} {next:Act→World→Prop} {Q:Exit→Act→World→Prop} (h:xStep Θ nofr call ops op s=some s') (hr:Rel E s.st a w) (hd:dstOk E.n op.dst=true)
    (hn:∀ a' w',Rel E s'.st a' w'→next a' w'):if Region.wanted op (yielded ops a.tmps) then op.wp P a w next Q else next (a.put op.dst undef) w:=by
  unfold xStep at h;split at h
  · cases h
  · rename_i hg;have hw:=gdc_wanted (o:=op) hr (xGuard_ok hg);rw [if_neg (by rw [hw];simp)];simp only [Option.some.injEq] at h;subst h;refine hn _ _ ?_;rw [put_st];obtain ⟨S,γ,hr⟩:=hr;exact ⟨S,γ,hr.put hd hr.sto (Tr.refl _ _ _ _ _) (.tup [] [] rfl (by simp)) trivial⟩
  · rename_i hg;have hw:=gdc_wanted (o:=op) hr (xGuard_ok hg);rw [if_pos (by rw [hw])];simp only at h;have hr1:=XS.frzs_ok (preF nofr op.op s) hr;generalize s.frzs (preF nofr op.op s)=s1 at h hr1;split at h
    · rename_i v o' nk' hx;simp only [Option.some.injEq] at h;subst h;refine op_step hΘ hr1 hd (xOp_ok hc hx (K:=fun v2 o2 n2=>v2=v∧o2=o'.get∧n2=nk') ⟨rfl,rfl,rfl⟩) ?_;rintro v2 o2 n2 a' w' ⟨rfl,rfl,rfl⟩ hr';refine hn _ _ ?_;rw [put_st];exact hr'
    · have hr2:=XS.soft_ok (XS.frzs_ok (postF op.op s1) hr1);generalize (s1.frzs (postF op.op s1)).soft=s2 at h hr2;split at h
      · rename_i v o' nk' hx;simp only [Option.some.injEq] at h;subst h;refine op_step hΘ hr2 hd (xOp_ok hc hx (K:=fun v2 o2 n2=>v2=v∧o2=o'.get∧n2=nk') ⟨rfl,rfl,rfl⟩) ?_;rintro v2 o2 n2 a' w' ⟨rfl,rfl,rfl⟩ hr';refine hn _ _ ?_;rw [put_st];exact hr'
      · cases h
theorem xOps_ok (hΘ:TabOk P Θ) (hc:CallOk P call) {E:Ent} {ops:Array Oper} {Q:Exit→Act→World→Prop} {s':XS} (hq:∀ a w,Rel E s'.st a w→Q .normal a w) :
    ∀ (l:List Oper) (s:XS) (a:Act) (w:World),(l.all fun o=>dstOk E.n o.dst)=true→Rel E s.st a w→xOps Θ nofr call ops l s=some s'→wpList P ops Q l a w
  | [],s,a,w,_,hr,h=>by
    simp only [xOps,Option.some.injEq] at h;subst h;exact hq a w hr
  | op :: r,s,a,w,hd,hr,h=>by
    simp only [List.all_cons,Bool.and_eq_true] at hd;simp only [xOps] at h;split at h
    · rename_i s1 hs1;refine wpList_step fun K hK=>?_;exact xStep_ok hΘ hc hs1 hr hd.1 fun a' w' h1=>hK a' w' (xOps_ok hΘ hc hq r s1 a' w' hd.2 h1 h)
    · cases h
end
def isW (op:Op):Bool:=
 match op with
 | .store _ _ _=>true
 | .box _ _=>true
 | .alloc _=>true
 | .makeMap _ _=>true
 | .mapUpdate _ _ _ _=>true
 | .range _ _=>true
 | .next _ _=>true
 | .buildSlice _ n _=>Nat.beq n 0
 | .makeSlice _ _ _=>true
 | .call c=>match c.callee with
  | .builtin .len=>false
  | .builtin .max=>false
  | .builtin .min=>false
  | _=>true
 | _=>false
def isQ (op:Op):Bool:=
 match op with
 | .move _=>true
 | .assign _=>true
 | .pick _ _ _=>true
 | .build _ _=>true
 | .load _ _=>true
 | .nilCheck _=>true
 | .binOp _ _ _ _ _=>true
 | .unOp _ _ _=>true
 | .convert _ _ _=>true
 | .makeFunc _ _ _=>true
 | .fieldAddr _ _ _=>true
 | .field _ _ _=>true
 | .indexAddr _ _ _=>true
 | .index _ _ _=>true
 | .extract _ _=>true
 | .buildSlice _ _ _=>true
 | .slice _ _ _ _ _=>true
 | .lookup _ _ _ _=>true
 | .call c=>match c.callee with
  | .builtin b=>match b with
   | .len=>true
   | .max=>true
   | .min=>true
   | _=>false
  | _=>false
 | _=>false
section
variable {Θ:Tab} {call:Nat→List SV→TM AO→Nat→Option XR}
theorem xq0 {op:Op} {s:XS} {r:SV} {o':TM AO} {nk':Nat} (hq:isQ op=true) (h:xOp0 Θ call op s=some (r,o',nk')) (hn:nk'=s.nk):o'=s.o:=by
 have mp:∀ {α:Type} {x:Option α} {f:α→SV},x.map (fun v=>(f v,s.o,s.nk))=some (r,o',nk')→o'=s.o:=fun h=>by
  obtain ⟨v,_,h⟩:=Option.map_eq_some_iff.1 h;simp only [Prod.mk.injEq] at h;exact h.2.1.symm
 unfold xOp0 at h;cases op <;> simp only [isQ,Bool.false_eq_true] at hq <;> simp only at h
 case move=>simp only [Option.some.injEq,Prod.mk.injEq] at h;exact h.2.1.symm
 case assign=>simp only [Option.some.injEq,Prod.mk.injEq] at h;exact h.2.1.symm
 case pick=>split at h <;> first | (simp only [Option.some.injEq,Prod.mk.injEq] at h;exact h.2.1.symm) | cases h
 case build=>exact mp h
 case load=>exact mp h
 case binOp=>exact mp (f:=.d) h
 case unOp=>exact mp (f:=.d) h
 case convert=>exact mp h
 case fieldAddr=>exact mp h
 case field=>exact mp h
 case indexAddr=>exact mp h
 case lookup=>cases h
 case nilCheck=>
  split at h
  ·split at h
   ·simp only [Option.some.injEq,Prod.mk.injEq] at h;exact h.2.1.symm
   ·cases h
  all_goals first | (simp only [Option.some.injEq,Prod.mk.injEq] at h;exact h.2.1.symm) | cases h
 case makeFunc=>split at h <;> first | (simp only [Option.some.injEq,Prod.mk.injEq] at h;exact h.2.1.symm) | cases h
 case index=>
  split at h
  ·cases h
  ·split at h
   ·split at h <;> first | (simp only [Option.some.injEq,Prod.mk.injEq] at h;exact h.2.1.symm) | cases h
   ·cases h
 case extract=>
  split at h
  ·exact mp h
  ·cases h
 case buildSlice=>
  unfold xbs at h
  repeat' (split at h)
  all_goals first | cases h;done | (simp only [Option.some.injEq,Prod.mk.injEq] at h;first | exact h.2.1.symm | omega)
 case slice=>
  unfold xsl at h
  repeat' (split at h)
  all_goals first | cases h;done | (simp only [Option.some.injEq,Prod.mk.injEq] at h;first | exact h.2.1.symm | omega)
 case call c=>
  obtain ⟨callee,asx,ts⟩:=c;cases callee with
  | builtin b=>
   simp only at h hq;split at h
   ·exact mp h
   ·simp at hq
   ·exact mp (f:=.d) h
   ·exact mp (f:=.d) h
   ·cases h
  | _=>simp at hq
theorem nW0_q {op:Op} {ev:Operand→SV} {o:Nat→Option AO} {nk:Nat} (hq:isQ op=true):nW0 Θ op ev o nk=none:=by
 cases op <;> simp only [isQ,Bool.false_eq_true] at hq <;> simp only [nW0]
 case call c=>
  obtain ⟨callee,asx,ts⟩:=c;cases callee with
  | builtin b=>cases b <;> first | (simp at hq;done) | rfl
  | _=>simp at hq
theorem nWF_q {op:Op} {ev:Operand→SV} {o:Nat→Option AO} {nk:Nat} (hq:isQ op=true):∀ l:List Operand,nWF Θ op ev o nk l=none
 | []=>rfl
 | x :: l=>by
  have ih:=nWF_q (ev:=ev) (o:=o) (nk:=nk) hq l;simp only [nWF];split
  ·split
   ·rw [nW0_q hq];exact ih
   ·exact ih
  ·exact ih
theorem xq {op:Op} {s:XS} {r:SV} {o':TM AO} {nk':Nat} (hq:isQ op=true) (h:xOp Θ call op s=some (r,o',nk')) (hn:nk'=s.nk):o'=s.o:=by
 unfold xOp at h;split at h
 ·simp only [Option.some.injEq,Prod.mk.injEq] at h;exact h.2.1.symm
 ·rw [nW0_q hq] at h;simp only at h;split at h
  ·rename_i r0 h0;simp only [Option.some.injEq] at h;subst h;exact xq0 hq h0 hn
  ·rw [nWF_q hq] at h;cases h
def xG (Θ:Tab) (call:Nat→List SV→TM AO→Nat→Option XR) (ops:Array Oper) (op:Oper) (s:XS):Option XR:=
 match xGuard ops s.sl op.guard with
 | none=>none
 | some false=>some (.tup [],s.o,s.nk)
 | some true=>xOp Θ call op.op s
def xDr (Θ:Tab) (call:Nat→List SV→TM AO→Nat→Option XR) (ops:Array Oper):List Oper→List Kd→XS→Option (List SV×List (TM AO×Nat)×TM SV)
 | [],[],s=>some ([],[],s.sl)
 | op :: r,.w _ :: ks,s=>match xG Θ call ops op s with
  | none=>none
  | some (v,o',nk')=>match xDr Θ call ops r ks ⟨putD s.sl op.dst v,o',nk'⟩ with
   | none=>none
   | some (vs,phs,sl)=>some (v :: vs,(o',nk') :: phs,sl)
 | op :: r,.q _ _ :: ks,s=>match xG Θ call ops op s with
  | none=>none
  | some (v,_,_)=>match xDr Θ call ops r ks ⟨putD s.sl op.dst v,s.o,s.nk⟩ with
   | none=>none
   | some (vs,phs,sl)=>some (v :: vs,phs,sl)
 | _,_,_=>none
def allX (n:Nat) (p:Nat→Bool) (lo:Nat):Bool:=
 match n with
 | 0=>p lo
 | n+1=>p lo && allX n p (lo+1)
def xChk (Θ:Tab) (call:Nat→List SV→TM AO→Nat→Option XR) (ops:Array Oper) (L:List (TM AO×Nat)):List Oper→List Kd→List SV→TM SV→Nat→Bool
 | [],[],[],_,_=>true
 | op :: r,.w j :: ks,v :: vs,sl,p=>decide (j=p) && xChk Θ call ops L r ks vs (putD sl op.dst v) (p+1)
 | op :: r,.q lo hi :: ks,v :: vs,sl,p=>isQ op.op && (allX (hi - lo) (fun q=>match L[q]? with
  | none=>false
  | some (o,nk)=>match xG Θ call ops op ⟨sl,o,nk⟩ with
   | none=>false
   | some (v2,_,nk2)=>SV.eqb v v2 && decide (nk2=nk)) lo) && xChk Θ call ops L r ks vs (putD sl op.dst v) p
 | _,_,_,_,_=>false
theorem xG_q {ops:Array Oper} {op:Oper} {s:XS} {v:SV} {o':TM AO} {nk':Nat} {P:Program} (hc:CallOk P call) (hq:isQ op.op=true) (h:xG Θ call ops op s=some (v,o',nk')) (hn:nk'=s.nk):gOp P Θ ops op s.st v:=by
 unfold xG at h;split at h
 ·cases h
 ·rename_i hg;have hg2:=xGuard_ok hg;simp only [Option.some.injEq,Prod.mk.injEq] at h;obtain ⟨rfl,_,_⟩:=h;unfold gOp;unfold gdc at hg2;split at hg2
  ·cases hg2
  ·rename_i j want hgu
   try rw [hgu]
   exact ⟨false,.any,hg2,fun e=>(by cases e),(cnd_F _).symm⟩
 ·rename_i hg;have hg2:=xGuard_ok hg;have ho:=xq hq h hn;subst ho;subst hn;have hv:pOp P Θ op.op s.st v:=xOp_ok hc h ⟨rfl,rfl,rfl⟩;unfold gOp;unfold gdc at hg2;split at hg2
  ·rename_i hgu;try rw [hgu]
   exact hv
  ·rename_i j want hgu
   try rw [hgu]
   exact ⟨true,v,hg2,fun _=>hv,(cnd_T v).symm⟩
theorem allX_ok {p:Nat→Bool} {R:Nat→Prop} (h:∀ q,p q=true→R q):∀ (n lo:Nat),allX n p lo=true→allP n R lo
 | 0,lo,h1=>h lo h1
 | n+1,lo,h1=>by
  simp only [allX,Bool.and_eq_true] at h1;exact ⟨h lo h1.1,allX_ok h n (lo+1) h1.2⟩
def phx (L:List (TM AO×Nat)):Nat→Ob:=fun p=>match L[p]? with
 | some (o,nk)=>(o.get,nk)
 | none=>(fun _=>none,0)
theorem xDr_ok {P:Program} (hc:CallOk P call) {ops:Array Oper} {K:St→Prop} {L:List (TM AO×Nat)} {m:Nat} {fin:XS} (hK:K fin.st) (hm:L[m]?=some (fin.o,fin.nk)) :
    ∀ (l:List Oper) (ks:List Kd) (s:XS) (vs:List SV) (phs pre:List (TM AO×Nat)) (p:Nat),xDr Θ call ops l ks s=some (vs,phs,fin.sl)→pre.length=p→L=pre++(s.o,s.nk) :: phs→
      m=p+phs.length→xChk Θ call ops L l ks vs s.sl p=true→eOps P Θ ops K (phx L) m l ks s.st.sl
  | [],[],s,vs,phs,pre,p,h,hp,hL,hmp,hk=>by
    simp only [xDr,Option.some.injEq,Prod.mk.injEq] at h;obtain ⟨rfl,rfl,h3⟩:=h;show K ⟨s.st.sl,(phx L m).1,(phx L m).2⟩;simp only [phx,hm];have:(⟨s.st.sl,fin.o.get,fin.nk⟩:St)=fin.st:=by simp only [XS.st,h3]
    rw [this];exact hK
  | [],k :: ks,s,vs,phs,pre,p,h,hp,hL,hmp,hk=>by simp [xDr] at h
  | op :: r,[],s,vs,phs,pre,p,h,hp,hL,hmp,hk=>by simp [xDr] at h
  | op :: r,.w j :: ks,s,vs,phs,pre,p,h,hp,hL,hmp,hk=>by
    simp only [xDr] at h;split at h
    · cases h
    · rename_i v o' nk' hx;split at h
      · cases h
      · rename_i vs' phs' sl' hx';simp only [Option.some.injEq,Prod.mk.injEq] at h;obtain ⟨rfl,rfl,rfl⟩:=h;simp only [xChk,Bool.and_eq_true,decide_eq_true_eq] at hk;obtain ⟨rfl,hk⟩:=hk;have hLp:L[j]?=some (s.o,s.nk):=by rw [hL,List.getElem?_append_right (by omega),hp];simp
        have hLp1:L[j+1]?=some (o',nk'):=by rw [hL,List.getElem?_append_right (by omega),hp];simp
        have ih:=xDr_ok hc hK hm r ks ⟨putD s.sl op.dst v,o',nk'⟩ vs' phs' (pre++[(s.o,s.nk)]) (j+1) hx' (by simp [hp]) (by rw [hL];simp) (by simp only [List.length_cons] at hmp;omega) hk;refine ⟨v,?_,by rw [put_st] at ih;exact ih⟩;simp only [eOp,phx,hLp,hLp1];unfold xG at hx;split at hx
        · cases hx
        · rename_i hg;simp only [Option.some.injEq,Prod.mk.injEq] at hx;obtain ⟨rfl,rfl,rfl⟩:=hx;exact ⟨false,.any,xGuard_ok hg,fun e=>(by cases e),fun _=>rfl,(cnd_F _).symm⟩
        · rename_i hg;exact ⟨true,v,xGuard_ok hg,fun _=>xOp_ok hc hx ⟨rfl,rfl,rfl⟩,fun e=>(by cases e),(cnd_T v).symm⟩
  | op :: r,.q lo hi :: ks,s,vs,phs,pre,p,h,hp,hL,hmp,hk=>by
    simp only [xDr] at h;split at h
    · cases h
    · rename_i v o' nk' hx;split at h
      · cases h
      · rename_i vs' phs' sl' hx';simp only [Option.some.injEq,Prod.mk.injEq] at h;obtain ⟨rfl,rfl,rfl⟩:=h;simp only [xChk,Bool.and_eq_true] at hk;obtain ⟨⟨hq,hall⟩,hk⟩:=hk;have ih:=xDr_ok hc hK hm r ks ⟨putD s.sl op.dst v,s.o,s.nk⟩ vs' phs' pre p hx' hp hL hmp hk;refine ⟨v,?_,by rw [put_st] at ih;exact ih⟩;simp only [eOp];refine allX_ok (fun q hqq=>?_) _ _ hall;split at hqq
        · cases hqq
        · rename_i o2 nk2 hLq;split at hqq
          · cases hqq
          · rename_i v2 o3 nk3 hg;simp only [Bool.and_eq_true,decide_eq_true_eq] at hqq;have hv:=SV.eqb_ok hqq.1;subst hv;have:=xG_q (P:=P) hc hq hg hqq.2;simp only [phx,hLq];exact this
end
def takeN (p:Nat→Bool):List Nat→Nat
 | []=>0
 | x :: r=>bif p x then takeN p r+1 else 0
def kdGo (an:List (List Nat)) (ws:List Nat):List Oper→Nat→Nat→List Kd
 | [],_,_=>[]
 | op :: r,i,j=>bif isW op.op then .w j :: kdGo an ws r (i+1) (j+1)
  else .q (takeN (fun w=>(an.getD i []).contains w) ws) (takeN (fun w=>!(an.getD w []).contains i) ws) :: kdGo an ws r (i+1) j
def wrGo:List Oper→Nat→List Nat
 | [],_=>[]
 | op :: r,i=>bif isW op.op then i :: wrGo r (i+1) else wrGo r (i+1)
section
variable (Θ:Tab) (nofr:Nat→Bool) (call:Nat→List SV→TM AO→Nat→Option XR)
def xDraw (ops:Array Oper) (s:XS):Option XS:=
  match ops.toList with
  | l=>match wrGo l 0 with
    | wr=>match kdGo (ancs l l.length) wr l 0 0 with
      | kd=>bif flowOk ops && phOk l kd wr then match xDr Θ call ops l kd s with
          | none=>none
          | some (vs,phs,sl)=>match (s.o,s.nk) :: phs with
            | L=>bif xChk Θ call ops L l kd vs s.sl 0 then match L[wr.length]? with
                | none=>none
                | some (o,nk)=>bif Nat.beq wr.length phs.length then some ⟨sl,o,nk⟩ else none
              else none
        else none
theorem xDraw_ok {P:Program} {n k0:Nat} {Q:Exit→St→Prop} (hΘ:TabOk P Θ) (hm:P.follows .mixedOrders=true) (hc:CallOk P call) {id:Nat} {ops:Array Oper} {s s':XS} (hd:(ops.toList.all fun o=>dstOk n o.dst)=true) (h:xDraw Θ call ops s=some s') (hQ:Q .normal s'.st) :
    WP P n k0 (.region id ops true) s.st Q:=by
  unfold xDraw at h;simp only at h;cases hb:flowOk ops && phOk ops.toList (kdGo (ancs ops.toList ops.toList.length) (wrGo ops.toList 0) ops.toList 0 0) (wrGo ops.toList 0) with
  | false=>rw [hb] at h;cases h
  | true=>
    rw [hb] at h;simp only [cond_true] at h;simp only [Bool.and_eq_true] at hb;split at h
    · cases h
    · rename_i vs phs sl hx;cases hk:xChk Θ call ops ((s.o,s.nk) :: phs) ops.toList (kdGo (ancs ops.toList ops.toList.length) (wrGo ops.toList 0) ops.toList 0 0) vs s.sl 0 with
      | false=>rw [hk] at h;cases h
      | true=>
        rw [hk] at h;simp only [cond_true] at h;split at h
        · cases h
        · rename_i o nk hL;cases he:Nat.beq (wrGo ops.toList 0).length phs.length with
          | false=>rw [he] at h;cases h
          | true=>
            rw [he] at h;simp only [cond_true,Option.some.injEq] at h;subst h;have hlen:=Nat.eq_of_beq_eq_true he;have:=WP.drawnW (P:=P) (Θ:=Θ) (n:=n) (k0:=k0) (Q:=Q) hΘ hm (sl:=s.st.sl) (id:=id) (ops:=ops) _ _ (phx ((s.o,s.nk) :: phs)) hd hb.1 hb.2
              (xDr_ok hc (fin:=⟨sl,o,nk⟩) hQ hL _ _ s vs phs [] 0 hx rfl rfl (by omega) hk)
            exact this
end
structure Pend (w0:World) (w:World) (S:Nat→Prop) (γ:Nat→Value) (o:Nat→Option AO) (g:Nat) (l:List D):Prop where
 mk ::
 cells:∃ arr ty,w.heap[g]?=some (.cells arr ty (0,0))∧arr.size=l.length∧∀ (i:Nat) (c:D) (u:Value),l[i]?=some c→arr[i]?=some u→Rd w S c u
 new:w0.heap.size≤g
 lt:g < w.heap.size
 ns:¬ S g
 nl:¬ Live γ o g
theorem Sto.adopt {w:World} {S:Nat→Prop} {γ:Nat→Value} {o:Nat→Option AO} {nk:Nat} (h:Sto w S γ o nk) {w0:World} {g:Nat} {l:List D} (hp:Pend w0 w S γ o g l) :
    Sto w S (upd γ nk (.pointer (some ⟨g,0,none⟩))) (upd o nk (some (.box (l.map .d)))) (nk+1):=by
  obtain ⟨⟨arr,ty,hg0,hsz,hr⟩,hw0,hlt,hns,hnl⟩:=hp;have hne:∀ t x,o t=some x→t≠nk:=fun t x hx e=>by have:=h.o_lt t x hx;omega
  have hkeys:∀ t x,t < nk→upd o nk (some (.box (l.map .d))) t=some x→∃ y,o t=some y∧AO.kin y x∧upd γ nk (.pointer (some ⟨g,0,none⟩)) t=γ t:=by
    intro t x ht hx;rw [upd_ne _ _ (by omega)] at hx;exact ⟨x,hx,AO.kin_refl x,upd_ne _ _ (by omega)⟩
  have hlive:∀ t x g',upd o nk (some (.box (l.map .d))) t=some x→blk (upd γ nk (.pointer (some ⟨g,0,none⟩)) t)=some g'→(t=nk∧g'=g)∨(t≠nk∧o t=some x∧blk (γ t)=some g'):=by
    intro t x g' hx hg;by_cases ht:t=nk
    · subst ht;rw [upd_same] at hg;simp [blk] at hg;exact .inl ⟨rfl,hg.symm⟩
    · rw [upd_ne _ _ ht] at hx hg;exact .inr ⟨ht,hx,hg⟩
  refine ⟨h.s_lt,?_,?_,?_,?_,?_,?_⟩
  · intro t x hx;by_cases ht:t=nk
    · omega
    · rw [upd_ne _ _ ht] at hx;have:=h.o_lt t x hx;omega
  · intro t cs' hc;by_cases ht:t=nk
    · subst ht;rw [upd_same] at hc;simp at hc;subst hc;rw [upd_same];refine ⟨⟨g,arr,ty,rfl,hg0,by simp [hsz],fun i c u h1 h2=>?_⟩,lts_of fun i c hc=>?_⟩
      · rw [List.getElem?_map] at h1;obtain ⟨d,hd,rfl⟩:=Option.map_eq_some_iff.1 h1;exact .d _ _ (hr i d u hd h2)
      · rw [List.getElem?_map] at hc;obtain ⟨d,hd,rfl⟩:=Option.map_eq_some_iff.1 hc;trivial
    · rw [upd_ne _ _ ht] at hc;obtain ⟨⟨g',arr',ty',h4,h5,h6,h7⟩,hl'⟩:=h.box t cs' hc;rw [upd_ne _ _ ht];exact ⟨⟨g',arr',ty',h4,h5,h6,fun i c u h8 h9=>(h7 i c u h8 h9).move (fun _ h=>h) (fun _ _=>rfl) hkeys (lts_get hl' i c h8)⟩,SV.lts_mono (Nat.le_succ _) hl'⟩
  · intro t e z xs hx;by_cases ht:t=nk
    · subst ht;rw [upd_same] at hx;cases hx
    · rw [upd_ne _ _ ht] at hx;rw [upd_ne _ _ ht];exact h.row t e z xs hx
  · intro t ob hx;by_cases ht:t=nk
    · subst ht;rw [upd_same] at hx;cases hx
    · rw [upd_ne _ _ ht] at hx;rw [upd_ne _ _ ht];exact h.raw t ob hx
  · intro t x g' hx hg;rcases hlive t x g' hx hg with ⟨_,rfl⟩ | ⟨_,h1,h2⟩
    · exact ⟨hns,hlt⟩
    · exact h.away t x g' h1 h2
  · intro t t' x x' g' hne' hx hx' hg hg';rcases hlive t x g' hx hg with ⟨h1,h2⟩ | ⟨h1,h2,h3⟩ <;> rcases hlive t' x' g' hx' hg' with ⟨h1',h2'⟩ | ⟨h1',h2',h3'⟩
    · exact hne' (h1.trans h1'.symm)
    · subst h2;exact hnl ⟨t',x',h2',h3'⟩
    · subst h2';exact hnl ⟨t,x,h2,h3⟩
    · exact h.apart t t' x x' g' hne' h2 h2' h3 h3'
theorem Pend.tr {w0 w w':World} {S S':Nat→Prop} {γ γ':Nat→Value} {o o':Nat→Option AO} {nk nk' g:Nat} {l:List D} (hs:Sto w S γ o nk) (ht:Tr w S γ o nk w' S' γ' o' nk') (hp:Pend w0 w S γ o g l):Pend w0 w' S' γ' o' g l:=by
 obtain ⟨⟨arr,ty,hg0,hsz,hr⟩,hw0,hlt,hns,hnl⟩:=hp;refine ⟨⟨arr,ty,by rw [ht.kept g hlt hnl];exact hg0,hsz,fun i c u h1 h2=>ht.rd hs (hr i c u h1 h2)⟩,hw0,Nat.lt_of_lt_of_le hlt ht.size,fun h=>?_,fun h=>?_⟩
 ·rcases ht.s_new g h with h1 | h1 | h1
  ·exact hns h1
  ·omega
  ·exact hnl h1
 ·rcases ht.live g h with h1 | h1
  ·omega
  ·exact hnl h1
theorem Rl.adopt {E:Ent} {s:St} {a:Act} {w:World} {S:Nat→Prop} {γ:Nat→Value} (hr:Rl E s a w S γ) {g t:Nat} {l:List D} (hp:Pend E.w w S γ s.o g l) (ht:a.tmps.getD t undef=.pointer (some ⟨g,0,none⟩)) :
    Rl E { sl:=upd s.sl t (.loc s.nk 0),o:=upd s.o s.nk (some (.box (l.map .d))),nk:=s.nk+1 } a w S (upd γ s.nk (.pointer (some ⟨g,0,none⟩))):=by
  have hsto:=hr.sto.adopt hp;have hkeys:∀ u x,u < s.nk→upd s.o s.nk (some (.box (l.map .d))) u=some x→∃ y,s.o u=some y∧AO.kin y x∧upd γ s.nk (.pointer (some ⟨g,0,none⟩)) u=γ u:=by
    intro u x hu hx;rw [upd_ne _ _ (by omega)] at hx;exact ⟨x,hx,AO.kin_refl x,upd_ne _ _ (by omega)⟩
  have hstep:Tr E.w E.S E.γ E.o E.nk w S (upd γ s.nk (.pointer (some ⟨g,0,none⟩))) (upd s.o s.nk (some (.box (l.map .d)))) (s.nk+1):=by
    refine ⟨hr.tr.os,hr.tr.tape,hr.tr.output,hr.tr.size,Nat.le_succ_of_le hr.tr.nks,hr.tr.kept,hr.tr.s,hr.tr.s_new,?_,?_⟩
    · rintro g' ⟨u,x,hx,hg⟩;by_cases hu:u=s.nk
      · subst hu;rw [upd_same] at hg;simp [blk] at hg;subst hg;exact .inl hp.new
      · rw [upd_ne _ _ hu] at hx hg;exact hr.tr.live g' ⟨u,x,hx,hg⟩
    · intro u x hu hx;have hlt:u < s.nk:=Nat.lt_of_lt_of_le hu hr.tr.nks;obtain ⟨y,hy,hk,hg⟩:=hkeys u x hlt hx;obtain ⟨z,hz,hk',hg'⟩:=hr.tr.keys u y hu hy;exact ⟨z,hz,AO.kin_trans hk' hk,hg.trans hg'⟩
  refine ⟨hsto,hstep,fun u=>?_,fun u=>?_,hr.df,hr.nn⟩
  · show SR w S _ _ (upd s.sl t (.loc s.nk 0) u) _;by_cases hu:u=t
    · subst hu;rw [upd_same,ht];exact .loc _ _ _ fun cs _=>⟨g,upd_same _ _ _,rfl⟩
    · rw [upd_ne _ _ hu];exact (hr.sl u).move (fun _ h=>h) (fun _ _=>rfl) hkeys (hr.slt u)
  · show (upd s.sl t (.loc s.nk 0) u).lt (s.nk+1);by_cases hu:u=t
    · subst hu;rw [upd_same];exact Nat.lt_succ_self _
    · rw [upd_ne _ _ hu];exact SV.lt_mono (Nat.le_succ _) (hr.slt u)
section
variable {P:Program} {Θ:Tab}
theorem alloc_pend (hΘ:TabOk P Θ) {E:Ent} {s:St} {a:Act} {w:World} {S:Nat→Prop} {γ:Nat→Value} {o:Oper} {e t:Nat} {i:TI} {l:List D} {next:Act→World→Prop} {Q:Exit→Act→World→Prop} (hr:Rl E s a w S γ) (ho:o.op=.alloc e) (hd:o.dst=some t) (htn:t < E.n) (hi:Θ e=some i) (hz:i.z=some l)
    (hn:∀ u w' S' γ' g,Rl E { sl:=upd s.sl t .any,o:=s.o,nk:=s.nk } (a.put (some t) u) w' S' γ'→u=.pointer (some ⟨g,0,none⟩)→w.heap.size≤g→Pend E.w w' S' γ' s.o g l→Tr w S γ s.o s.nk w' S' γ' s.o s.nk→next (a.put (some t) u) w'):o.wp P a w next Q:=by
  have hv:vOp P Θ o.op s fun v o' nk'=>v=.loc s.nk 0∧o'=upd s.o s.nk (some (.box (l.map .d)))∧nk'=s.nk+1:=by
    rw [ho];exact .inl ⟨i,l,hi,hz,rfl,rfl,rfl⟩
  refine upon_of_eff (vOp_sound hΘ hr.fr hv) ?_;rintro u w' ⟨v,o',nk',S',γ',⟨rfl,rfl,rfl⟩,h1,h2,h3,h4⟩;have hob:upd s.o s.nk (some (.box (l.map .d))) s.nk=some (.box (l.map .d)):=upd_same _ _ _;obtain ⟨⟨g,arr,ty,hg1,hg2,hg3,hg4⟩,_⟩:=h1.box s.nk _ hob;have hold:∀ t x,s.o t=some x→t < s.nk∧upd s.o s.nk (some (.box (l.map .d))) t=some x:=fun t x hx=>by
    have:=hr.sto.o_lt t x hx;exact ⟨this,by rw [upd_ne _ _ (by omega)];exact hx⟩
  have hbg:blk (γ' s.nk)=some g:=by rw [hg1];rfl
  have hnl:¬ Live γ' s.o g:=by
    rintro ⟨t,x,hx,hb⟩;obtain ⟨hlt,hx'⟩:=hold t x hx;exact h1.apart t s.nk x _ g (by omega) hx' hob hb hbg
  have hnew:w.heap.size≤g:=by
    rcases h2.live g ⟨s.nk,_,hob,hbg⟩ with h | ⟨t,x,hx,hb⟩
    · exact h
    · obtain ⟨hlt,hx'⟩:=hold t x hx;obtain ⟨_,_,_,hge⟩:=h2.keys t x hlt hx';exact absurd ⟨t,x,hx,by rw [hge];exact hb⟩ hnl
  have hwk:Wko s.nk id (upd s.o s.nk (some (.box (l.map .d)))) s.o s.nk:=by
    refine ⟨Nat.le_refl _,fun t x hx=>?_,fun t t' x x' _ _ h=>h,fun _ _ _ _=>rfl⟩;obtain ⟨hlt,hx'⟩:=hold t x hx;refine ⟨hlt,by rw [AO.ren_id];exact hx',?_⟩;cases x with
    | box cs=>exact (hr.sto.box t cs hx).2
    | _=>trivial
  have hs':Sto w' S' γ' s.o s.nk:=hwk.sto h1;have ht':Tr w S γ s.o s.nk w' S' γ' s.o s.nk:=hwk.tr h2;have hu:u=.pointer (some ⟨g,0,none⟩):=by
    cases h3 with
    | loc _ _ _ hv=>
      obtain ⟨g',k1,k2⟩:=hv _ hob;rw [hg1] at k1;simp at k1;rw [k2,k1]
  have hp:=hr.put (d:=some t) (by simpa [dstOk] using htn) hs' ht' (.any u) trivial;rw [hd];refine hn u w' S' γ' g hp hu hnew ⟨⟨arr,ty,hg2,by simpa using hg3,fun i c x hc hx=>?_⟩,Nat.le_trans hr.tr.size hnew,(h1.away s.nk _ g hob hbg).2,(h1.away s.nk _ g hob hbg).1,hnl⟩ ht';have:=hg4 i (.d c) x (by rw [List.getElem?_map,hc];rfl) hx;cases this with
  | d _ _ h=>exact h
theorem op_stepL {E:Ent} {s:St} {a:Act} {w:World} {S:Nat→Prop} {γ:Nat→Value} (hΘ:TabOk P Θ) {o:Oper} {next:Act→World→Prop} {Q:Exit→Act→World→Prop} {K:SV→(Nat→Option AO)→Nat→Prop} (hr:Rl E s a w S γ) (hd:dstOk E.n o.dst=true) (h:vOp P Θ o.op s K)
    (hn:∀ v o' nk' u w' S' γ',K v o' nk'→Rl E { sl:=pt s.sl o.dst v,o:=o',nk:=nk' } (a.put o.dst u) w' S' γ'→Tr w S γ s.o s.nk w' S' γ' o' nk'→next (a.put o.dst u) w'):o.wp P a w next Q:=by
  refine upon_of_eff (vOp_sound hΘ hr.fr h) ?_;rintro u w' ⟨v,o',nk',S',γ',hK,h1,h2,h3,h4⟩;exact hn v o' nk' u w' S' γ' hK (hr.put hd h1 h2 h3 h4) h2
theorem g_stepL {E:Ent} {s:St} {a:Act} {w:World} {S:Nat→Prop} {γ:Nat→Value} (hΘ:TabOk P Θ) {ops:Array Oper} {o:Oper} {next:Act→World→Prop} {Q:Exit→Act→World→Prop} {v:SV} (hr:Rl E s a w S γ) (hd:dstOk E.n o.dst=true)
    (h:gOp P Θ ops o s v) (hn:∀ u w' S' γ',Rl E { sl:=pt s.sl o.dst v,o:=s.o,nk:=s.nk } (a.put o.dst u) w' S' γ'→Tr w S γ s.o s.nk w' S' γ' s.o s.nk→next (a.put o.dst u) w') :
    if Region.wanted o (yielded ops a.tmps) then o.wp P a w next Q else next (a.put o.dst undef) w:=by
  unfold gOp at h;unfold Region.wanted;split at h
  · rename_i hg;rw [hg];simp only [if_true];refine op_stepL hΘ hr hd h ?_;rintro v' o' nk' u w' S' γ' ⟨rfl,rfl,rfl⟩ hr' ht;exact hn u w' S' γ' hr' ht
  · rename_i j want hg;rw [hg];obtain ⟨c,v',h1,h2,rfl⟩:=h;have hy:=guard_yield ⟨S,γ,hr⟩ h1;simp only [hy];cases c with
    | true=>
      rw [if_pos rfl];refine op_stepL hΘ hr hd (h2 rfl) ?_;rintro v' o' nk' u w' S' γ' ⟨rfl,rfl,rfl⟩ hr' ht;exact hn u w' S' γ' (by rw [cnd_T];exact hr') ht
    | false=>
      rw [if_neg (by simp)];exact hn undef w S γ (by rw [cnd_F];exact hr.put hd hr.sto (Tr.refl _ _ _ _ _) (.tup [] [] rfl (by simp)) trivial) (Tr.refl _ _ _ _ _)
def PendAt (E:Ent) (a:Act) (w:World) (S:Nat→Prop) (γ:Nat→Value) (o:Nat→Option AO) (g t:Nat) (l:List D):Prop:=a.tmps.getD t undef=.pointer (some ⟨g,0,none⟩)∧Pend E.w w S γ o g l
theorem put_get (a:Act) (d:Option Nat) (u:Value) {t:Nat} (h:d≠some t):(a.put d u).tmps.getD t undef=a.tmps.getD t undef:=by
 cases d with
 | none=>rfl
 | some d=>
  have hne:d≠t:=fun e=>h (by rw [e]);simp [Act.put,Array.getElem?_setIfInBounds_ne hne]
theorem PendAt.step {E:Ent} {a:Act} {w w':World} {S S':Nat→Prop} {γ γ':Nat→Value} {o o':Nat→Option AO} {nk nk' g t:Nat} {l:List D} {d:Option Nat} {u:Value} (hs:Sto w S γ o nk) (ht:Tr w S γ o nk w' S' γ' o' nk') (hd:d≠some t) (h:PendAt E a w S γ o g t l) :
 PendAt E (a.put d u) w' S' γ' o' g t l:=⟨by rw [put_get a d u hd];exact h.1,h.2.tr hs ht⟩
theorem PendAt.adopt {E:Ent} {a:Act} {w:World} {S:Nat→Prop} {γ:Nat→Value} {o:Nat→Option AO} {nk g g2 t:Nat} {l l2:List D} (h:PendAt E a w S γ o g t l) (hlt:∀ t x,o t=some x→t < nk) (hne:g≠g2) :
    PendAt E a w S (upd γ nk (.pointer (some ⟨g2,0,none⟩))) (upd o nk (some (.box (l2.map .d)))) g t l:=by
  refine ⟨h.1,h.2.cells,h.2.new,h.2.lt,h.2.ns,?_⟩;rintro ⟨u,x,hx,hb⟩;by_cases hu:u=nk
  · subst hu;rw [upd_same] at hb;simp [blk] at hb;exact hne hb.symm
  · rw [upd_ne _ _ hu] at hx hb;exact h.2.nl ⟨u,x,hx,hb⟩
end
theorem slL_set {sl:Nat→SV} {prs:List (Option Nat×SV)} {lm:Array Bool} {i:Nat} {d:Option Nat} {v:SV} (huniq:Uniq prs) (hpv:prs[i]?=some (d,v)) (hi:i < lm.size):slL sl prs (lm.setIfInBounds i true)=pt (slL sl prs lm) d v:=by
 have hli:(lm.setIfInBounds i true).getD i false=true:=by simp [hi]
 have hlf:∀ j,j≠i→(lm.setIfInBounds i true).getD j false=lm.getD j false:=fun j hj=>getD_set_ne false (Ne.symm hj);funext u;by_cases hex:∃ (j:Nat) (x:SV),prs[j]?=some (some u,x)
 ·obtain ⟨j,x,hj⟩:=hex;by_cases hji:j=i
  ·subst hji;rw [hj] at hpv;simp only [Option.some.injEq,Prod.mk.injEq] at hpv;obtain ⟨h1,h2⟩:=hpv;rw [slL_hit huniq hj hli,← h1,h2];exact (upd_same _ _ _).symm
  ·have hne:d≠some u:=fun e=>hji (huniq j i u x v hj (by rw [hpv,e]));have hp:pt (slL sl prs lm) d v u=slL sl prs lm u:=by
    cases hod:d with
    | none=>rfl
    | some d=>exact upd_ne _ _ fun e=>hne (by rw [hod,e])
   rw [hp];by_cases hl:lm.getD j false=true
   ·rw [slL_hit huniq hj hl,slL_hit huniq hj (by rw [hlf j hji];exact hl)]
   ·rw [slL_miss,slL_miss]
    ·intro k y hk hlk;have:=huniq k j u y x hk hj;subst this;exact hl hlk
    ·intro k y hk hlk;have:=huniq k j u y x hk hj;subst this;rw [hlf k hji] at hlk;exact hl hlk
 ·have hne:d≠some u:=fun e=>hex ⟨i,v,by rw [hpv,e]⟩;have hp:pt (slL sl prs lm) d v u=slL sl prs lm u:=by
   cases hod:d with
   | none=>rfl
   | some d=>exact upd_ne _ _ fun e=>hne (by rw [hod,e])
  rw [hp,slL_miss,slL_miss]
  ·exact fun k y hk _=>hex ⟨k,y,hk⟩
  ·exact fun k y hk _=>hex ⟨k,y,hk⟩
structure Al where
 i:Nat
 t:Nat
 j:Nat
 l:List D
inductive KdP where
 | q (lo hi:Nat)
 | w (j:Nat)
 | a (j k:Nat)
def lsAt (al:List Al) (j:Nat):List Al:=al.filter fun b=>decide (b.j=j)
def matO:List Al→Ob→Ob
 | [],x=>x
 | b :: r,x=>matO r (upd x.1 x.2 (some (.box (b.l.map .d))),x.2+1)
def matS:List Al→(Nat→SV)→Nat→Nat→SV
 | [],sl,_=>sl
 | b :: r,sl,nk=>matS r (upd sl b.t (.loc nk 0)) (nk+1)
def setAll:List Al→Array Bool→Array Bool
 | [],lm=>lm
 | b :: r,lm=>setAll r (lm.setIfInBounds b.i true)
theorem setAll_size:∀ (r:List Al) (lm:Array Bool),(setAll r lm).size=lm.size
 | [],lm=>rfl
 | b :: r,lm=>by rw [setAll,setAll_size r];simp
theorem setAll_get:∀ (r:List Al) (lm:Array Bool) (x:Nat),(∀ b∈r,b.i < lm.size)→((setAll r lm).getD x false=true↔lm.getD x false=true∨∃ b∈r,b.i=x)
 | [],lm,x,_=>by simp [setAll]
 | b :: r,lm,x,h=>by
  rw [setAll,setAll_get r _ x (fun c hc=>by simpa using h c (by simp [hc]))];by_cases hx:b.i=x
  ·subst hx;have:b.i < lm.size:=h b (by simp);constructor
   ·intro _;exact .inr ⟨b,by simp,rfl⟩
   ·intro _;left;simp [this]
  ·rw [getD_set_ne false hx];simp [hx]
theorem matS_slL {sl0:Nat→SV} {prs:List (Option Nat×SV)} (hu:Uniq prs):∀ (r:List Al) (lm:Array Bool) (nk:Nat),(∀ (pos:Nat) (b:Al),r[pos]?=some b→prs[b.i]?=some (some b.t,.loc (nk+pos) 0)∧b.i < lm.size)→
    matS r (slL sl0 prs lm) nk=slL sl0 prs (setAll r lm)
  | [],lm,nk,_=>rfl
  | b :: r,lm,nk,h=>by
    obtain ⟨h1,h2⟩:=h 0 b rfl;have e:upd (slL sl0 prs lm) b.t (.loc nk 0)=slL sl0 prs (lm.setIfInBounds b.i true):=by
      rw [slL_set hu h1 h2];rfl
    rw [matS,setAll,e];refine matS_slL hu r _ (nk+1) fun pos c hc=>?_;obtain ⟨h3,h4⟩:=h (pos+1) c (by simpa using hc);exact ⟨by rw [show nk+1+pos=nk+(pos+1) by omega];exact h3,by simpa using h4⟩
theorem adoptAll {E:Ent} {a:Act} {w:World} {S:Nat→Prop} {G:Nat→Nat}:∀ (r:List Al) {s:St} {γ:Nat→Value},Rl E s a w S γ→(∀ b∈r,PendAt E a w S γ s.o (G b.i) b.t b.l)→r.Pairwise (fun b c=>G b.i≠G c.i)→
    ∃ γ',Rl E ⟨matS r s.sl s.nk,(matO r (s.o,s.nk)).1,(matO r (s.o,s.nk)).2⟩ a w S γ'∧∀ g t l,(∀ b∈r,g≠G b.i)→PendAt E a w S γ s.o g t l→PendAt E a w S γ' (matO r (s.o,s.nk)).1 g t l
  | [],s,γ,hr,_,_=>⟨γ,hr,fun _ _ _ _ h=>h⟩
  | b :: r,s,γ,hr,hp,hd=>by
    obtain ⟨hd1,hd2⟩:=List.pairwise_cons.1 hd;have hb:=hp b (by simp);have hr2:=hr.adopt hb.2 hb.1;obtain ⟨γ',k1,k2⟩:=adoptAll r hr2 (fun c hc=>(hp c (by simp [hc])).adopt hr.sto.o_lt (fun e=>hd1 c hc e.symm)) hd2;exact ⟨γ',k1,fun g t l hg hpd=>k2 g t l (fun c hc=>hg c (by simp [hc])) (hpd.adopt hr.sto.o_lt (hg b (by simp)))⟩
theorem gdc_wanted2 {E:Ent} {s:St} {a:Act} {w:World} {ops:Array Oper} {o:Oper} {c:Bool} (hr:Rel E s a w) (h:gdc ops s o.guard c):Region.wanted o (yielded ops a.tmps)=c:=by
 unfold gdc at h;unfold Region.wanted;split at h
 ·rename_i hg;rw [hg];exact h.symm
 ·rename_i j want hg;rw [hg];exact guard_yield hr h
section
variable {P:Program} {Θ:Tab} {n k0:Nat} {Q:Exit→St→Prop}
def eOpP (P:Program) (Θ:Tab) (ops:Array Oper) (ph:Nat→Ob) (al:List Al) (o:Oper) (sl:Nat→SV) (v:SV):KdP→Prop
 | .q lo hi=>allP (hi - lo) (fun p=>gOp P Θ ops o ⟨sl,(ph p).1,(ph p).2⟩ v) lo
 | .w j=>∃ c v2,gdc ops ⟨sl,(matO (lsAt al j) (ph j)).1,(matO (lsAt al j) (ph j)).2⟩ o.guard c∧(c=true→vOp P Θ o.op ⟨sl,(matO (lsAt al j) (ph j)).1,(matO (lsAt al j) (ph j)).2⟩ fun v' o' nk'=>v'=v2∧o'=(ph (j+1)).1∧nk'=(ph (j+1)).2)∧(c=false→ph (j+1)=matO (lsAt al j) (ph j))∧v=cnd c v2
 | .a j k=>v=.loc ((ph j).2+k) 0
structure FitP (Θ:Tab) (ops:Array Oper) (kd:List KdP) (wr:List Nat) (al:List Al):Prop where
 kl:kd.length=ops.size
 nd:wr.Nodup
 wk:∀ j i,wr[j]?=some i→kd[i]?=some (KdP.w j)
 q:∀ i lo hi,kd[i]?=some (KdP.q lo hi)→lo≤wr.length∧∀ j x,wr[j]?=some x→(j < lo→ancB ops.toList i x=true)∧(hi≤j→ancB ops.toList x i=true)
 w:∀ i j,kd[i]?=some (KdP.w j)→wr[j]?=some i∧∀ j' x,wr[j']?=some x→j' < j→ancB ops.toList i x=true
 a:∀ i j k,kd[i]?=some (KdP.a j k)→∃ b∈al,b.i=i∧b.j=j∧(lsAt al j)[k]?=some b
 aA:∀ b∈al,(∃ k,kd[b.i]?=some (KdP.a b.j k))∧∃ x,wr[b.j]?=some x∧ancB ops.toList x b.i=true
 us:∀ b∈al,∀ i o,ops[i]?=some o→b.t∈o.looksAt ops→wr[b.j]?=some i∨∃ x,wr[b.j]?=some x∧ancB ops.toList i x=true
 op:∀ b∈al,∃ o e i,ops[b.i]?=some o∧o.op=.alloc e∧o.guard=none∧o.dst=some b.t∧Θ e=some i∧i.z=some b.l
 inj:∀ b∈al,∀ c∈al,b.i=c.i→b=c
 ndL:∀ j,(lsAt al j).Pairwise fun b c=>b.i≠c.i
theorem WP.drawnP (hΘ:TabOk P Θ) (hm:P.follows .mixedOrders=true) {sl:Nat→SV} {id:Nat} {ops:Array Oper} {kd:List KdP} {wr:List Nat} {al:List Al} (fit:FitP Θ ops kd wr al) (ph:Nat→Ob) (vs:List SV) (hd:(ops.toList.all fun o=>dstOk n o.dst)=true) (hflow:flowOk ops=true)
    (hvl:vs.length=ops.size) (hany:∀ b∈al,sl b.t=.any)
    (hop:∀ (i:Nat) (o:Oper) (v:SV) (k:KdP),ops[i]?=some o→vs[i]?=some v→kd[i]?=some k→eOpP P Θ ops ph al o (slAt sl (((ops.toList.map (·.dst)).zip vs).take i)) v k)
    (hfin:Q .normal ⟨slAt sl ((ops.toList.map (·.dst)).zip vs),(ph wr.length).1,(ph wr.length).2⟩):WP P n k0 (.region id ops true) ⟨sl,(ph 0).1,(ph 0).2⟩ Q:=by
  intro E a w e1 e2 hrel;refine wp_region_any hm ?_;generalize hprs:(ops.toList.map (·.dst)).zip vs=prs at hop hfin;have hget:∀ (j:Nat) (o:Oper),ops[j]?=some o→∃ v,vs[j]?=some v∧prs[j]?=some (o.dst,v):=fun j o hj=>by
    have hlt:j < ops.size:=(Array.getElem?_eq_some_iff.1 hj).1;have hv:vs[j]?=some (vs[j]'(by rw [hvl];exact hlt)):=List.getElem?_eq_getElem _;refine ⟨_,hv,?_⟩;rw [← hprs,List.getElem?_zip_eq_some];refine ⟨?_,hv⟩;rw [List.getElem?_map];have:ops.toList[j]?=some o:=by simpa using hj
    rw [this];rfl
  have hback:∀ (j:Nat) (d:Option Nat) (v:SV),prs[j]?=some (d,v)→∃ o,ops[j]?=some o∧o.dst=d∧vs[j]?=some v:=fun j d v hj=>by
    rw [← hprs,List.getElem?_zip_eq_some,List.getElem?_map] at hj;obtain ⟨h1,h2⟩:=hj;obtain ⟨o,ho,rfl⟩:=Option.map_eq_some_iff.1 h1;exact ⟨o,by simpa using ho,rfl,h2⟩
  have huniq:Uniq prs:=fun i j u v x hi hj=>by
    obtain ⟨o,ho,hod,_⟩:=hback i _ v hi;obtain ⟨p,hp,hpd,_⟩:=hback j _ x hj;have:=(flow_spec hflow ho).2 j p hp;simp only [flowAt,hpd,Bool.and_eq_true,Bool.or_eq_true,beq_iff_eq] at this;rcases this.1 with h1 | h1
    · exact h1
    · simp [hod] at h1
  have hons:∀ {o:Oper} {e:Edge},e∈o.after→Region.binds .any e=true→e.on∈onsOf o:=fun {o e} he hb=>by
    simp only [onsOf,List.mem_map,List.mem_filter];exact ⟨e,⟨by simpa using he,hb⟩,rfl⟩
  have hons':∀ {o:Oper} {j:Nat},j∈onsOf o→∃ e∈o.after,Region.binds .any e=true∧e.on=j:=fun {o j} hj=>by
    simp only [onsOf,List.mem_map,List.mem_filter] at hj;obtain ⟨e,⟨h1,h2⟩,h3⟩:=hj;exact ⟨e,by simpa using h1,h2,h3⟩
  have honlt:∀ (i:Nat) (o:Oper),ops.toList[i]?=some o→∀ k∈onsOf o,k < i:=fun i o ho=>(flow_spec hflow (by simpa using ho)).1;have hpA:∀ b∈al,b.i < ops.size∧∃ v,prs[b.i]?=some (some b.t,v):=fun b hb=>by
    obtain ⟨o,e,i,h1,_,_,h4,_⟩:=fit.op b hb;obtain ⟨v,_,h6⟩:=hget b.i o h1;exact ⟨(Array.getElem?_eq_some_iff.1 h1).1,v,by rw [h6,h4]⟩
  have hpL:∀ (j pos:Nat) (b:Al),(lsAt al j)[pos]?=some b→prs[b.i]?=some (some b.t,.loc ((ph j).2+pos) 0):=fun j pos b hb=>by
    have hm:=List.mem_of_getElem? hb;simp only [lsAt,List.mem_filter,decide_eq_true_eq] at hm;obtain ⟨hbm,rfl⟩:=hm;obtain ⟨o,e,i,h1,_,_,h4,_⟩:=fit.op b hbm;obtain ⟨v,h5,h6⟩:=hget b.i o h1;obtain ⟨⟨k,hk⟩,_⟩:=fit.aA b hbm;have hv:=hop b.i o v _ h1 h5 hk;obtain ⟨c,hc,hci,hcj,hck⟩:=fit.a _ _ _ hk;obtain rfl:=fit.inj c hc b hbm hci;have hkp:k=pos:=by
      obtain ⟨q1,q2⟩:=List.getElem?_eq_some_iff.1 hck;obtain ⟨q3,q4⟩:=List.getElem?_eq_some_iff.1 hb;rcases Nat.lt_trichotomy k pos with hlt | heq | hgt
      · exact absurd (by rw [q2,q4]) ((List.pairwise_iff_getElem.1 (fit.ndL c.j)) k pos q1 q3 hlt)
      · exact heq
      · exact absurd (by rw [q2,q4]) ((List.pairwise_iff_getElem.1 (fit.ndL c.j)) pos k q3 q1 hgt)
    rw [h6,h4];simp only [eOpP] at hv;rw [hv,hkp]
  have hwlt:∀ j i,wr[j]?=some i→i < ops.size:=fun j i hj=>by
    have:=(List.getElem?_eq_some_iff.1 (fit.wk j i hj)).1;rw [fit.kl] at this;exact this
  have hsl:∀ (listed lm:Array Bool) (i:Nat) (o:Oper),(∀ (j:Nat) (p:Oper),ops[j]?=some p→listed.getD j false=true→∀ k∈onsOf p,listed.getD k false=true)→(∀ x,lm.getD x false=true→listed.getD x false=true)→
      (∀ x,listed.getD x false=true→lm.getD x false=true∨∃ b∈al,b.i=x∧b.t ∉ o.looksAt ops)→
      ops[i]?=some o→listed.getD i false=false→(∀ k∈onsOf o,listed.getD k false=true)→∀ u∈o.looksAt ops,slAt sl (prs.take i) u=slL sl prs lm u:=by
    intro listed lm i o hcl hle hto ho hif hon u hu;by_cases hex:∃ (j:Nat) (x:SV),prs[j]?=some (some u,x)
    · obtain ⟨j,x,hj⟩:=hex;obtain ⟨p,hp,hpd,_⟩:=hback j _ x hj;have hfl:=(flow_spec hflow ho).2 j p hp;have hlook:(o.looksAt ops).contains u=true:=by simpa using hu
      simp only [flowAt,hpd,Bool.and_eq_true,Bool.or_eq_true,beq_iff_eq,hlook,Bool.not_true,Bool.false_eq_true,false_or,decide_eq_true_eq,List.contains_eq_mem] at hfl;rcases hfl.2 with ⟨h1,h2⟩ | ⟨h1,h2⟩
      · have hlj:lm.getD j false=true:=by
          rcases hto j (hon j h2) with h | ⟨b,hb,hbi,hbt⟩
          · exact h
          · obtain ⟨_,v,hv⟩:=hpA b hb;rw [hbi,hj] at hv;simp at hv;rw [hv.1] at hu;exact absurd hu hbt
        rw [slL_hit huniq hj hlj];refine slAt_hit _ _ j (by rw [List.getElem?_take,if_pos h1];exact hj) fun k y hk=>?_;rw [List.getElem?_take] at hk;split at hk
        · exact huniq k j u y x hk hj
        · cases hk
      · rw [slAt_miss,slL_miss]
        · intro k y hk hl;have:=huniq k j u y x hk hj;subst this;have:=hcl k p hp (hle k hl) i h2;rw [hif] at this;cases this
        · intro y hy;obtain ⟨k,hk⟩:=List.getElem?_of_mem hy;rw [List.getElem?_take] at hk;split at hk
          · have:=huniq k j u y x hk hj;omega
          · cases hk
    · rw [slAt_miss,slL_miss]
      · exact fun k y hk _=>hex ⟨k,y,hk⟩
      · intro y hy;obtain ⟨k,hk⟩:=List.getElem?_of_mem (List.mem_of_mem_take hy);exact hex ⟨k,y,hk⟩
  have main:∀ (fuel:Nat) (listed lm:Array Bool) (p:Nat) (G:Nat→Nat) (a:Act) (w:World) (S:Nat→Prop) (γ:Nat→Value),listed.size=ops.size→lm.size=ops.size→unl listed ops.size≤fuel→p≤wr.length→
      (∀ j i,wr[j]?=some i→(listed.getD i false=true↔j < p))→(∀ (j:Nat) (p:Oper),ops[j]?=some p→listed.getD j false=true→∀ k∈onsOf p,listed.getD k false=true)→
      (∀ x,(∀ b∈al,b.i≠x)→lm.getD x false=listed.getD x false)→(∀ b∈al,(lm.getD b.i false=true↔b.j < p))→
      Rl E ⟨slL sl prs lm,(ph p).1,(ph p).2⟩ a w S γ→
      (∀ b∈al,listed.getD b.i false=true→p≤b.j→PendAt E a w S γ (ph p).1 (G b.i) b.t b.l)→
      (∀ b∈al,∀ c∈al,listed.getD b.i false=true→listed.getD c.i false=true→p≤b.j→p≤c.j→b.i≠c.i→G b.i≠G c.i)→
      wpAny P .any ops (fun e a' w'=>∃ s',Rel E s' a' w'∧Q e s') fuel listed a w:=by
    intro fuel;have hancw:∀ (listed:Array Bool),(∀ (j:Nat) (p:Oper),ops[j]?=some p→listed.getD j false=true→∀ k∈onsOf p,listed.getD k false=true)→listed.size=ops.size→∀ (y x:Nat),ancB ops.toList y x=true→listed.getD y false=true→listed.getD x false=true:=by
      intro listed hcl hsz y x hx hy;cases hq:ops[y]? with
      | none=>
        have:listed.getD y false=false:=by
          have:=Array.getElem?_eq_none_iff.1 hq;have:¬ y < listed.size:=by omega
          simp [this]
        rw [this] at hy;cases hy
      | some q=>
        refine ancs_closed honlt (fun j p hj=>hcl j p (by simpa using hj)) ops.toList.length y q (by simpa using (Array.getElem?_eq_some_iff.1 hq).1) (by simpa using hq) (hcl y q hq hy) x ?_;simpa [ancB] using hx
    have hdone:∀ (listed lm:Array Bool) (p:Nat) (a:Act) (w:World),listed.size=ops.size→lm.size=ops.size→p≤wr.length→(∀ j i,wr[j]?=some i→(listed.getD i false=true↔j < p))→
        (∀ x,(∀ b∈al,b.i≠x)→lm.getD x false=listed.getD x false)→(∀ b∈al,(lm.getD b.i false=true↔b.j < p))→
        (∀ i,i < ops.size→listed.getD i true=true)→Rel E ⟨slL sl prs lm,(ph p).1,(ph p).2⟩ a w→∃ s',Rel E s' a w∧Q .normal s':=by
      intro listed lm p a w hsz hlsz hp hwp ht1 ht2 hL hr;have hLf:∀ i,i < ops.size→listed.getD i false=true:=fun i hi=>by
        have h1:=hL i hi;have:i < listed.size:=by omega
        simp [this] at h1 ⊢;exact h1
      have hpe:p=wr.length:=by
        by_cases h:p < wr.length
        · have h1:=hwp p wr[p] (List.getElem?_eq_getElem h);have:=h1.1 (hLf _ (hwlt p _ (List.getElem?_eq_getElem h)));omega
        · omega
      subst hpe;have hlm:∀ i,i < ops.size→lm.getD i false=true:=fun i hi=>by
        by_cases hx:∃ b∈al,b.i=i
        · obtain ⟨b,hb,rfl⟩:=hx;obtain ⟨_,x,hx,_⟩:=fit.aA b hb;exact (ht2 b hb).2 (List.getElem?_eq_some_iff.1 hx).1
        · rw [ht1 i (fun b hb e=>hx ⟨b,hb,e⟩)];exact hLf i hi
      have hall:slL sl prs lm=slAt sl prs:=by
        funext u;by_cases hex:∃ (j:Nat) (x:SV),prs[j]?=some (some u,x)
        · obtain ⟨j,x,hj⟩:=hex;obtain ⟨q,hq,_,_⟩:=hback j _ x hj;rw [slL_hit huniq hj (hlm j (Array.getElem?_eq_some_iff.1 hq).1),slAt_hit _ _ j hj fun k y hk=>huniq k j u y x hk hj]
        · rw [slL_miss,slAt_miss]
          · intro y hy;obtain ⟨k,hk⟩:=List.getElem?_of_mem hy;exact hex ⟨k,y,hk⟩
          · exact fun k y hk _=>hex ⟨k,y,hk⟩
      rw [hall] at hr;exact ⟨_,hr,hfin⟩
    induction fuel with
    | zero=>
      intro listed lm p G a w S γ hsz hlsz hun hp hwp hcl ht1 ht2 hr hpend hdis;have hL:=unl_zero ops.size (by omega) (listed:=listed);obtain ⟨s',h1,h2⟩:=hdone listed lm p a w hsz hlsz hp hwp ht1 ht2 hL ⟨S,γ,hr⟩;refine ⟨?_,s',h1,h2⟩;rw [List.eq_nil_iff_forall_not_mem];intro i hi;rw [mem_ready] at hi;obtain ⟨h0,o,ho,_⟩:=hi;have:=hL i (Array.getElem?_eq_some_iff.1 ho).1;rw [this] at h0;cases h0
    | succ fuel ih=>
      intro listed lm p G a w S γ hsz hlsz hun hp hwp hcl ht1 ht2 hr hpend hdis;refine ⟨fun hnil=>?_,fun i hi=>?_⟩
      · have hL:∀ i,i < ops.size→listed.getD i true=true:=by
          intro i
          induction i using Nat.strongRecOn with
          | _ i ihi=>
            intro hlt;by_cases hl:listed.getD i true=true
            · exact hl
            · exfalso;simp only [Bool.not_eq_true] at hl;have hmem:i∈Region.ready .any ops listed:=by
                rw [mem_ready];refine ⟨hl,ops[i],by simp [hlt],fun e he hb=>?_⟩;have hlt2:=(flow_spec hflow (i:=i) (o:=ops[i]) (by simp [hlt])).1 e.on (hons he hb);have:=ihi e.on hlt2 (by omega);have hlt3:e.on < listed.size:=by omega
                simp [hlt3] at this ⊢;exact this
              rw [hnil] at hmem;cases hmem
        exact hdone listed lm p a w hsz hlsz hp hwp ht1 ht2 hL ⟨S,γ,hr⟩
      · have hi':=hi;rw [mem_ready] at hi';obtain ⟨h0,o,ho,hon⟩:=hi';have hilt:i < ops.size:=(Array.getElem?_eq_some_iff.1 ho).1;have h0f:listed.getD i false=false:=by
          have:i < listed.size:=by omega
          simp [this] at h0 ⊢;exact h0
        obtain ⟨v,hv,hpv⟩:=hget i o ho;have hon':∀ k∈onsOf o,listed.getD k false=true:=fun k hk=>by
          obtain ⟨e,h1,h2,rfl⟩:=hons' hk;exact hon e h1 h2
        have hanc:∀ k,ancB ops.toList i k=true→listed.getD k false=true:=fun k hk=>by
          refine ancs_closed honlt (fun j p hj=>hcl j p (by simpa using hj)) ops.toList.length i o (by simpa using hilt) (by simpa using ho) hon' k ?_;simpa [ancB] using hk
        have hle:∀ x,lm.getD x false=true→listed.getD x false=true:=fun x hx=>by
          by_cases hex:∃ b∈al,b.i=x
          · obtain ⟨b,hb,rfl⟩:=hex;obtain ⟨_,y,hy,hya⟩:=fit.aA b hb;exact hancw listed hcl hsz y b.i hya ((hwp b.j y hy).2 ((ht2 b hb).1 hx))
          · rw [← ht1 x (fun b hb e=>hex ⟨b,hb,e⟩)];exact hx
        have hdo:dstOk E.n o.dst=true:=by
          rw [e1];exact List.all_eq_true.1 hd o (by
            have:ops.toList[i]?=some o:=by simpa using ho
            exact List.mem_of_getElem? this)
        have hcl2:∀ (j:Nat) (p:Oper),ops[j]?=some p→(listed.setIfInBounds i true).getD j false=true→∀ k∈onsOf p,(listed.setIfInBounds i true).getD k false=true:=by
          intro j p hj hl k hk;by_cases hji:j=i
          · subst hji;rw [ho] at hj;simp only [Option.some.injEq] at hj;subst hj;exact getD_set_true (hon' k hk)
          · rw [getD_set_ne false (Ne.symm hji)] at hl;exact getD_set_true (hcl j p hj hl k hk)
        have hun2:unl (listed.setIfInBounds i true) ops.size≤fuel:=by
          have:=unl_set h0 ops.size;rw [if_pos hilt] at this;omega
        have hseti:(listed.setIfInBounds i true).getD i false=true:=by
          have:i < listed.size:=by rw [hsz];exact hilt
          simp [this]
        obtain ⟨k,hk⟩:∃ k,kd[i]?=some k:=⟨_,List.getElem?_eq_getElem (by rw [fit.kl];exact hilt)⟩;have he:=hop i o v k ho hv hk;have hnot:(∀ j k',kd[i]?≠some (KdP.a j k'))→∀ b∈al,b.i≠i:=fun h b hb e=>by
          obtain ⟨⟨k',hk'⟩,_⟩:=fit.aA b hb;rw [e] at hk';exact h _ _ hk'
        have hdne:∀ b∈al,b.i≠i→o.dst≠some b.t:=fun b hb hne e=>by
          obtain ⟨_,x,hx⟩:=hpA b hb;rw [e] at hpv;exact hne (huniq b.i i b.t x v hx hpv)
        show wpOp P ops _ i _ a w;unfold wpOp;rw [ho];simp only;cases k with
        | q lo hi=>
          obtain ⟨hlo,hky⟩:=fit.q i lo hi hk;have hni:=hnot (fun j k' h=>by rw [hk] at h;cases h);have hnw:∀ j,wr[j]?≠some i:=fun j hj=>by
            have:=fit.wk j i hj;rw [hk] at this;cases this
          have hplo:lo≤p:=by
            rcases Nat.lt_or_ge p lo with h | h
            · have hlt:p < wr.length:=by omega
              have hw:=List.getElem?_eq_getElem hlt;have h1:=hanc _ ((hky p _ hw).1 h);have:=(hwp p _ hw).1 h1;omega
            · exact h
          have hphi:p≤hi:=by
            rcases Nat.lt_or_ge hi p with h | h
            · have hlt:hi < wr.length:=by omega
              have hw:=List.getElem?_eq_getElem hlt;have h1:=(hwp hi _ hw).2 h;have h2:=hancw listed hcl hsz _ _ ((hky hi _ hw).2 (Nat.le_refl _)) h1;rw [h0f] at h2;cases h2
            · exact h
          have hg0:=allP_at (hi - lo) lo p he hplo (by omega);have hto:∀ x,listed.getD x false=true→lm.getD x false=true∨∃ b∈al,b.i=x∧b.t ∉ o.looksAt ops:=fun x hx=>by
            by_cases hex:∃ b∈al,b.i=x
            · obtain ⟨b,hb,rfl⟩:=hex;by_cases hbj:b.j < p
              · exact .inl ((ht2 b hb).2 hbj)
              · refine .inr ⟨b,hb,rfl,fun hlk=>?_⟩;rcases fit.us b hb i o ho hlk with h | ⟨y,h1,h2⟩
                · exact hnw _ h
                · exact hbj ((hwp _ _ h1).1 (hanc _ h2))
            · left;rw [ht1 x (fun b hb e=>hex ⟨b,hb,e⟩)];exact hx
          have hg:gOp P Θ ops o ⟨slL sl prs lm,(ph p).1,(ph p).2⟩ v:=gOp_congr (s:=⟨slAt sl (prs.take i),(ph p).1,(ph p).2⟩) (fun u hu=>hsl listed lm i o hcl hle hto ho h0f hon' u hu) rfl rfl hg0;have hstep:=g_stepL (Q:=fun e a' w'=>∃ s',Rel E s' a' w'∧Q e s') (next:=wpAny P .any ops (fun e a' w'=>∃ s',Rel E s' a' w'∧Q e s') fuel (listed.setIfInBounds i true)) hΘ hr hdo hg (fun u w' S' γ' hr' ht=>by
            refine ih _ (lm.setIfInBounds i true) p G _ w' S' γ' (by simpa using hsz) (by simpa using hlsz) hun2 hp (fun j x hj=>?_) hcl2 (fun x hx=>?_) (fun b hb=>?_) (by rw [slL_set huniq hpv (by omega)];exact hr') (fun b hb hl hpj=>?_) (fun b hb c hc hl1 hl2 hp1 hp2 hne=>?_)
            · have hne:x≠i:=fun e=>hnw j (by rw [hj,e]);rw [getD_set_ne false (Ne.symm hne)];exact hwp j x hj
            · by_cases hxi:x=i
              · subst hxi;rw [hseti];have:x < lm.size:=by omega
                simp [this]
              · rw [getD_set_ne false (Ne.symm hxi),getD_set_ne false (Ne.symm hxi)];exact ht1 x hx
            · rw [getD_set_ne false (Ne.symm (hni b hb))];exact ht2 b hb
            · rw [getD_set_ne false (Ne.symm (hni b hb))] at hl;exact (hpend b hb hl hpj).step hr.sto ht (hdne b hb (hni b hb))
            · rw [getD_set_ne false (Ne.symm (hni b hb))] at hl1;rw [getD_set_ne false (Ne.symm (hni c hc))] at hl2;exact hdis b hb c hc hl1 hl2 hp1 hp2 hne)
          split
          · rename_i hw;rw [if_pos hw] at hstep;exact .inl hstep
          · rename_i hw;rw [if_neg hw] at hstep;exact hstep
        | a j k=>
          obtain ⟨b,hb,rfl,rfl,hbk⟩:=fit.a i j k hk;obtain ⟨o',e',ti,h1,hopa,hgn,hdst,hti,htz⟩:=fit.op b hb;rw [ho] at h1;simp only [Option.some.injEq] at h1;subst h1;obtain ⟨_,y,hy,hya⟩:=fit.aA b hb;have hpj:p≤b.j:=by
            rcases Nat.lt_or_ge b.j p with h | h
            · have:=hancw listed hcl hsz y b.i hya ((hwp b.j y hy).2 h);rw [h0f] at this;cases this
            · exact h
          have hwant:Region.wanted o (yielded ops a.tmps)=true:=by simp [Region.wanted,hgn]
          rw [if_pos hwant];have htn:b.t < E.n:=by
            have:=hdo;rw [hdst] at this;simpa [dstOk] using this
          have hrest:∀ c∈al,c≠b→c.i≠b.i:=fun c hc hne e=>hne (fit.inj c hc b hb e);refine .inl (alloc_pend hΘ hr hopa hdst htn hti htz fun u w' S' γ' g hr' hu hnew hpd ht=>?_);have hsame:upd (slL sl prs lm) b.t .any=slL sl prs lm:=by
            funext z;by_cases hz:z=b.t
            · subst hz;rw [upd_same,slL_miss,hany b hb];intro q x hq hl;obtain ⟨_,x2,hx2⟩:=hpA b hb;have:=huniq q b.i b.t x x2 hq hx2;subst this;have:=(ht2 b hb).1 hl;omega
            · rw [upd_ne _ _ hz]
          rw [hsame] at hr';have hput:(a.put (some b.t) u).tmps.getD b.t undef=u:=by
            have:b.t < a.tmps.size:=by rw [hr.nn];exact htn
            simp [Act.put,this]
          refine ih _ lm p (fun x=>if x=b.i then g else G x) _ w' S' γ' (by simpa using hsz) hlsz hun2 hp (fun j x hj=>?_) hcl2 (fun x hx=>?_) ht2 hr' (fun c hc hl hpj'=>?_) (fun c hc d hdd hl1 hl2 hp1 hp2 hne=>?_)
          · have hne:x≠b.i:=fun e=>by
              have:=fit.wk j x hj;rw [e,hk] at this;cases this
            rw [getD_set_ne false (Ne.symm hne)];exact hwp j x hj
          · rw [getD_set_ne false (hx b hb)];exact ht1 x hx
          · by_cases hcb:c=b
            · subst hcb;simp only [if_true];exact ⟨by rw [hput,hu],hpd⟩
            · have hci:=hrest c hc hcb;simp only [if_neg hci];rw [getD_set_ne false (Ne.symm hci)] at hl;have:=hdne c hc hci;rw [hdst] at this;exact (hpend c hc hl hpj').step hr.sto ht this
          · by_cases hcb:c.i=b.i
            · by_cases hdb:d.i=b.i
              · exact absurd (hcb.trans hdb.symm) hne
              · simp only [if_pos hcb,if_neg hdb];rw [getD_set_ne false (Ne.symm hdb)] at hl2;have:=(hpend d hdd hl2 hp2).2.lt;omega
            · by_cases hdb:d.i=b.i
              · simp only [if_neg hcb,if_pos hdb];rw [getD_set_ne false (Ne.symm hcb)] at hl1;have:=(hpend c hc hl1 hp1).2.lt;omega
              · simp only [if_neg hcb,if_neg hdb];rw [getD_set_ne false (Ne.symm hcb)] at hl1;rw [getD_set_ne false (Ne.symm hdb)] at hl2;exact hdis c hc d hdd hl1 hl2 hp1 hp2 hne
        | w j=>
          obtain ⟨hwj,hky⟩:=fit.w i j hk;have hni:=hnot (fun j k' h=>by rw [hk] at h;cases h);have hjlt:j < wr.length:=(List.getElem?_eq_some_iff.1 hwj).1;have hpj:p=j:=by
            have h1:¬ j < p:=fun h=>by
              have:=(hwp j i hwj).2 h;rw [h0f] at this;cases this
            rcases Nat.lt_or_ge p j with h | h
            · have hlt:p < wr.length:=by omega
              have hw:=List.getElem?_eq_getElem hlt;have:=(hwp p _ hw).1 (hanc _ (hky p _ hw h));omega
            · omega
          subst hpj;have hmemL:∀ b,b∈lsAt al p↔b∈al∧b.j=p:=fun b=>by simp [lsAt]
          have hlis:∀ b∈al,b.j=p→listed.getD b.i false=true:=fun b hb hbj=>by
            obtain ⟨_,y,hy,hya⟩:=fit.aA b hb;rw [hbj,hwj] at hy;simp only [Option.some.injEq] at hy;subst hy;exact hanc _ hya
          obtain ⟨γ2,hr2,hpk⟩:=adoptAll (G:=G) (lsAt al p) hr (fun b hb=>by
            obtain ⟨h1,h2⟩:=(hmemL b).1 hb;exact hpend b h1 (hlis b h1 h2) (by omega)) (by
            refine (fit.ndL p).imp_of_mem fun {b c} hb hc hne=>?_;obtain ⟨h1,h2⟩:=(hmemL b).1 hb;obtain ⟨h3,h4⟩:=(hmemL c).1 hc;exact hdis b h1 c h3 (hlis b h1 h2) (hlis c h3 h4) (by omega) (by omega) hne)
          have hslots:=matS_slL (sl0:=sl) huniq (lsAt al p) lm (ph p).2 (fun pos b hb=>⟨hpL p pos b hb,by
            have:=(hpA b ((hmemL b).1 (List.mem_of_getElem? hb)).1).1;omega⟩)
          simp only [hslots] at hr2;have hsg:=setAll_get (lsAt al p) lm;have hsg':∀ x,((setAll (lsAt al p) lm).getD x false=true↔lm.getD x false=true∨∃ b∈lsAt al p,b.i=x):=fun x=>hsg x (fun b hb=>by
            have:=(hpA b ((hmemL b).1 hb).1).1;omega)
          have hsz2:=setAll_size (lsAt al p) lm;generalize hlm2:setAll (lsAt al p) lm=lm2 at hr2 hsg' hsz2;have hle2:∀ x,lm2.getD x false=true→listed.getD x false=true:=fun x hx=>by
            rcases (hsg' x).1 hx with h | ⟨b,hb,rfl⟩
            · exact hle x h
            · obtain ⟨h1,h2⟩:=(hmemL b).1 hb;exact hlis b h1 h2
          have hto:∀ x,listed.getD x false=true→lm2.getD x false=true∨∃ b∈al,b.i=x∧b.t ∉ o.looksAt ops:=fun x hx=>by
            by_cases hex:∃ b∈al,b.i=x
            · obtain ⟨b,hb,rfl⟩:=hex;by_cases hbj:b.j < p
              · exact .inl ((hsg' _).2 (.inl ((ht2 b hb).2 hbj)))
              · by_cases hbp:b.j=p
                · exact .inl ((hsg' _).2 (.inr ⟨b,(hmemL b).2 ⟨hb,hbp⟩,rfl⟩))
                · refine .inr ⟨b,hb,rfl,fun hlk=>?_⟩;rcases fit.us b hb i o ho hlk with h | ⟨y,h1,h2⟩
                  · obtain ⟨q1,q2⟩:=List.getElem?_eq_some_iff.1 h;obtain ⟨q3,q4⟩:=List.getElem?_eq_some_iff.1 hwj;rcases Nat.lt_trichotomy b.j p with hlt | heq | hgt
                    · exact hbj hlt
                    · exact hbp heq
                    · exact absurd (q4.trans q2.symm) ((List.pairwise_iff_getElem.1 fit.nd) p b.j q3 q1 hgt)
                  · exact hbj ((hwp _ _ h1).1 (hanc _ h2))
            · left;refine (hsg' x).2 (.inl ?_);rw [ht1 x (fun b hb e=>hex ⟨b,hb,e⟩)];exact hx
          obtain ⟨c,v2,hgc,hvo,hsame,rfl⟩:=he;have hgc2:gdc ops ⟨slL sl prs lm2,(matO (lsAt al p) ((ph p).1,(ph p).2)).1,(matO (lsAt al p) ((ph p).1,(ph p).2)).2⟩ o.guard c:=by
            unfold gdc at hgc ⊢;split at hgc
            · exact hgc
            · rename_i j want hg;have hgs:gsl ops ⟨slL sl prs lm2,(matO (lsAt al p) ((ph p).1,(ph p).2)).1,(matO (lsAt al p) ((ph p).1,(ph p).2)).2⟩ j=gsl ops ⟨slAt sl (prs.take i),(matO (lsAt al p) (ph p)).1,(matO (lsAt al p) (ph p)).2⟩ j:=by
                unfold gsl;split
                · rename_i d hd;refine (hsl listed lm2 i o hcl hle2 hto ho h0f hon' d ?_).symm;simp only [Oper.looksAt,List.mem_append,List.mem_filterMap];right;rw [hg];simp [hd]
                · rfl
              rw [hgs];exact hgc
          have hlast:∀ (u:Value) (w':World) (S':Nat→Prop) (γ':Nat→Value),Rl E { sl:=pt (slL sl prs lm2) o.dst (cnd c v2),o:=(ph (p+1)).1,nk:=(ph (p+1)).2 } (a.put o.dst u) w' S' γ'→
              Tr w S γ2 (matO (lsAt al p) ((ph p).1,(ph p).2)).1 (matO (lsAt al p) ((ph p).1,(ph p).2)).2 w' S' γ' (ph (p+1)).1 (ph (p+1)).2→wpAny P .any ops (fun e a' w'=>∃ s',Rel E s' a' w'∧Q e s') fuel (listed.setIfInBounds i true) (a.put o.dst u) w':=by
            intro u w' S' γ' hr' ht;refine ih _ (lm2.setIfInBounds i true) (p+1) G _ w' S' γ' (by simpa using hsz) (by simp [hsz2,hlsz]) hun2 (by omega) (fun j x hj=>?_) hcl2 (fun x hx=>?_) (fun b hb=>?_) (by rw [slL_set huniq hpv (by omega)];exact hr') (fun b hb hl hpb=>?_) (fun b hb c hc hl1 hl2 hp1 hp2 hne=>?_)
            · by_cases hx:x=i
              · subst hx;have hjp:j=p:=by
                  obtain ⟨h1a,h1b⟩:=List.getElem?_eq_some_iff.1 hj;obtain ⟨h2a,h2b⟩:=List.getElem?_eq_some_iff.1 hwj;rcases Nat.lt_trichotomy j p with hlt | heq | hgt
                  · exact absurd (h1b.trans h2b.symm) ((List.pairwise_iff_getElem.1 fit.nd) j p h1a h2a hlt)
                  · exact heq
                  · exact absurd (h2b.trans h1b.symm) ((List.pairwise_iff_getElem.1 fit.nd) p j h2a h1a hgt)
                rw [hseti,hjp];simp
              · rw [getD_set_ne false (Ne.symm hx),hwp j x hj];have:j≠p:=fun e=>hx (by
                  subst e;rw [hwj] at hj;exact (Option.some.inj hj).symm)
                omega
            · by_cases hxi:x=i
              · subst hxi;rw [hseti];have:x < lm2.size:=by omega
                simp [this]
              · rw [getD_set_ne false (Ne.symm hxi),getD_set_ne false (Ne.symm hxi),← ht1 x hx,Bool.eq_iff_iff,hsg' x];constructor
                · rintro (h | ⟨b,hb,rfl⟩)
                  · exact h
                  · exact absurd rfl (hx b ((hmemL b).1 hb).1)
                · exact .inl
            · rw [getD_set_ne false (Ne.symm (hni b hb)),hsg' b.i,ht2 b hb];constructor
              · rintro (h | ⟨c,hc,hci⟩)
                · omega
                · obtain ⟨h1,h2⟩:=(hmemL c).1 hc;have:=fit.inj c h1 b hb hci;subst this;omega
              · intro h;by_cases hbp:b.j=p
                · exact .inr ⟨b,(hmemL b).2 ⟨hb,hbp⟩,rfl⟩
                · exact .inl (by omega)
            · rw [getD_set_ne false (Ne.symm (hni b hb))] at hl;have h1:=hpend b hb hl (by omega);have h2:=hpk (G b.i) b.t b.l (fun c hc=>by
                obtain ⟨q1,q2⟩:=(hmemL c).1 hc;exact hdis b hb c q1 hl (hlis c q1 q2) (by omega) (by omega) (fun e=>by
                  have:=fit.inj b hb c q1 e;subst this;omega)) h1
              exact h2.step hr2.sto ht (hdne b hb (hni b hb))
            · rw [getD_set_ne false (Ne.symm (hni b hb))] at hl1;rw [getD_set_ne false (Ne.symm (hni c hc))] at hl2;exact hdis b hb c hc hl1 hl2 (by omega) (by omega) hne
          have hwant:=gdc_wanted2 (o:=o) ⟨S,γ2,hr2⟩ hgc2;cases c with
          | true=>
            have hvo2:=vOp_congr (s:=⟨slAt sl (prs.take i),(matO (lsAt al p) (ph p)).1,(matO (lsAt al p) (ph p)).2⟩) (s':=⟨slL sl prs lm2,(matO (lsAt al p) ((ph p).1,(ph p).2)).1,(matO (lsAt al p) ((ph p).1,(ph p).2)).2⟩) (fun x hx=>by
              cases x with
              | tmp t=>
                refine hsl listed lm2 i o hcl hle2 hto ho h0f hon' t ?_;simp only [Oper.looksAt,List.mem_append,List.mem_filterMap];exact .inl ⟨.tmp t,by simpa using hx,rfl⟩
              | _=>rfl) rfl rfl (hvo rfl)
            rw [if_pos hwant];refine .inl (op_stepL hΘ hr2 hdo hvo2 ?_);rintro v' o' nk' u w' S' γ' ⟨rfl,rfl,rfl⟩ hr' ht;exact hlast u w' S' γ' (by rw [cnd_T];exact hr') ht
          | false=>
            rw [if_neg (by rw [hwant];simp)];have e:=hsame rfl;have hput:=hr2.put hdo hr2.sto (Tr.refl _ _ _ _ _) (SR.tup [] [] rfl (by simp)) (show SV.lt _ (.tup []) from trivial) (u:=undef);refine hlast undef w S γ2 (by rw [e,cnd_F];exact hput) (by rw [e];exact Tr.refl _ _ _ _ _)
  obtain ⟨S,γ,hr⟩:=hrel;obtain ⟨m1,m2⟩:=hr.sto.more (w':={ w with drawn:=w.drawn+1 }) (fun _=>False) (fun _ h=>h.elim) rfl rfl rfl (Nat.le_refl _) (fun _ _=>rfl);have hrepf:∀ i,(Array.replicate ops.size false).getD i false=false:=fun i=>by
    simp only [Array.getD_eq_getD_getElem?,Array.getElem?_replicate];split <;> rfl
  have hsl0:slL sl prs (Array.replicate ops.size false)=sl:=by
    funext u;refine slL_miss fun j v _ hl=>?_;rw [hrepf] at hl;cases hl
  have hunl:∀ m,unl (Array.replicate ops.size false) m≤m:=by
    intro m
    induction m with
    | zero=>simp [unl]
    | succ m ih=>simp only [unl];split <;> omega
  refine main ops.size (Array.replicate ops.size false) (Array.replicate ops.size false) 0 (fun _=>0) a { w with drawn:=w.drawn+1 } (fun k=>S k∨False) γ (by simp) (by simp) (hunl _) (Nat.zero_le _) (fun j i _=>?_) (fun j p _ hl=>?_) (fun _ _=>rfl) (fun b _=>?_) ?_ (fun b _ hl=>?_) (fun b _ c _ hl=>?_)
  · rw [hrepf];simp
  · rw [hrepf] at hl;cases hl
  · rw [hrepf];simp
  · rw [hsl0];exact ⟨m1,hr.tr.trans m2,fun u=>(hr.sl u).tr hr.sto m2 (hr.slt u),hr.slt,hr.df,hr.nn⟩
  · rw [hrepf] at hl;cases hl
  · rw [hrepf] at hl;cases hl
end
def nodupN:List Nat→Bool
 | []=>true
 | x :: r=>!r.contains x && nodupN r
theorem nodupN_ok:∀ {l:List Nat},nodupN l=true→l.Nodup
 | [],_=>List.nodup_nil
 | x :: r,h=>by
  simp only [nodupN,Bool.and_eq_true,Bool.not_eq_true',List.contains_eq_mem,decide_eq_false_iff_not] at h;exact List.nodup_cons.2 ⟨h.1,nodupN_ok h.2⟩
def isKw (k:Option KdP) (j:Nat):Bool:=
 match k with
 | some (.w i)=>decide (i=j)
 | _=>false
theorem isKw_ok {k:Option KdP} {j:Nat} (h:isKw k j=true):k=some (.w j):=by
 unfold isKw at h;split at h
 ·simp at h;rw [h]
 ·cases h
def isKa (k:Option KdP) (j:Nat):Bool:=
 match k with
 | some (.a i _)=>decide (i=j)
 | _=>false
theorem isKa_ok {k:Option KdP} {j:Nat} (h:isKa k j=true):∃ q,k=some (.a j q):=by
 unfold isKa at h;split at h
 ·simp at h;subst h;exact ⟨_,rfl⟩
 ·cases h
def alOp (Θ:Tab) (ops:List Oper) (b:Al):Bool:=
 match ops[b.i]? with
 | some o=>o.guard.isNone && decide (o.dst=some b.t) && (match o.op with
  | .alloc e=>match Θ e with
   | some i=>match i.z with
    | some l=>D.eqbs l b.l
    | none=>false
   | none=>false
  | _=>false)
 | none=>false
theorem alOp_ok {Θ:Tab} {ops:List Oper} {b:Al} (h:alOp Θ ops b=true):∃ o e i,ops[b.i]?=some o∧o.op=.alloc e∧o.guard=none∧o.dst=some b.t∧Θ e=some i∧i.z=some b.l:=by
 unfold alOp at h;split at h
 ·rename_i o ho;simp only [Bool.and_eq_true,Option.isNone_iff_eq_none,decide_eq_true_eq] at h;obtain ⟨⟨h1,h2⟩,h3⟩:=h;split at h3
  ·rename_i e he;split at h3
   ·rename_i i hi;split at h3
    ·rename_i l hl;have:=D.eqbs_ok _ _ h3;subst this;exact ⟨o,e,i,ho,he,h1,h2,hi,hl⟩
    ·cases h3
   ·cases h3
  ·cases h3
 ·cases h
def fitB (Θ:Tab) (ops:Array Oper) (kd:List KdP) (wr:List Nat) (al:List Al):Bool:=
 decide (kd.length=ops.size) && nodupN wr && (wr.zipIdx.all fun x=>isKw kd[x.1]? x.2) &&
 (kd.zipIdx.all fun x=>match x.1 with
  | .q lo hi=>decide (lo≤wr.length) && (wr.zipIdx.all fun y=>(!decide (y.2 < lo) || ancB ops.toList x.2 y.1) && (!decide (hi≤y.2) || ancB ops.toList y.1 x.2))
  | .w j=>decide (wr[j]?=some x.2) && wr.zipIdx.all fun y=>!decide (y.2 < j) || ancB ops.toList x.2 y.1
  | .a j k=>match (lsAt al j)[k]? with
   | some b=>decide (b.i=x.2)
   | none=>false) &&
 nodupN (al.map fun b=>b.i) &&
 (al.all fun b=>isKa kd[b.i]? b.j && alOp Θ ops.toList b && (match wr[b.j]? with
  | some x=>ancB ops.toList x b.i && (ops.toList.zipIdx.all fun y=>!(y.1.looksAt ops).contains b.t || decide (x=y.2) || ancB ops.toList y.2 x)
  | none=>false))
theorem fitB_ok {Θ:Tab} {ops:Array Oper} {kd:List KdP} {wr:List Nat} {al:List Al} (h:fitB Θ ops kd wr al=true):FitP Θ ops kd wr al:=by
 unfold fitB at h;simp only [Bool.and_eq_true,decide_eq_true_eq] at h;obtain ⟨⟨⟨⟨⟨h1,h2⟩,h3⟩,h4⟩,h5⟩,h6⟩:=h;have zi:∀ {α:Type} {l:List α} {i:Nat} {x:α},l[i]?=some x→(x,i)∈l.zipIdx:=fun hx=>by rw [List.mem_zipIdx_iff_getElem?];exact hx
 have hnd:=nodupN_ok h5;have hpw:al.Pairwise fun b c=>b.i≠c.i:=List.pairwise_map.1 hnd;have hal:∀ b∈al,isKa kd[b.i]? b.j=true∧alOp Θ ops.toList b=true∧∃ x,wr[b.j]?=some x∧ancB ops.toList x b.i=true∧∀ i o,ops[i]?=some o→b.t∈o.looksAt ops→x=i∨ancB ops.toList i x=true:=fun b hb=>by
  have:=List.all_eq_true.1 h6 b hb;simp only [Bool.and_eq_true] at this;obtain ⟨⟨k1,k2⟩,k3⟩:=this;refine ⟨k1,k2,?_⟩;split at k3
  ·rename_i x hx;simp only [Bool.and_eq_true] at k3;refine ⟨x,hx,k3.1,fun i o ho hlk=>?_⟩;have:=List.all_eq_true.1 k3.2 (o,i) (zi (by simpa using ho));simp only [Bool.or_eq_true,Bool.not_eq_true',List.contains_eq_mem,decide_eq_false_iff_not,decide_eq_true_eq] at this;rcases this with (h | h) | h
   ·exact absurd hlk h
   ·exact .inl h
   ·exact .inr h
  ·cases k3
 refine ⟨h1,nodupN_ok h2,fun j i hj=>isKw_ok (List.all_eq_true.1 h3 (i,j) (zi hj)),fun i lo hi hk=>?_,fun i j hk=>?_,fun i j k hk=>?_,fun b hb=>?_,fun b hb i o ho hlk=>?_,fun b hb=>?_,fun b hb c hc he=>?_,fun j=>hpw.sublist List.filter_sublist⟩
 ·have:=List.all_eq_true.1 h4 (.q lo hi,i) (zi hk);simp only [Bool.and_eq_true,decide_eq_true_eq] at this;refine ⟨this.1,fun j x hj=>?_⟩;have:=List.all_eq_true.1 this.2 (x,j) (zi hj);simp only [Bool.and_eq_true,Bool.or_eq_true,Bool.not_eq_true',decide_eq_false_iff_not] at this;exact ⟨fun h=>this.1.resolve_left (fun k=>k h),fun h=>this.2.resolve_left (fun k=>k h)⟩
 ·have:=List.all_eq_true.1 h4 (.w j,i) (zi hk);simp only [Bool.and_eq_true,decide_eq_true_eq] at this;refine ⟨this.1,fun j' x hj h=>?_⟩;have:=List.all_eq_true.1 this.2 (x,j') (zi hj);simp only [Bool.or_eq_true,Bool.not_eq_true',decide_eq_false_iff_not] at this;exact this.resolve_left (fun k=>k h)
 ·have:=List.all_eq_true.1 h4 (.a j k,i) (zi hk);simp only at this;split at this
  ·rename_i b hb;have hm:=List.mem_of_getElem? hb;simp only [lsAt,List.mem_filter,decide_eq_true_eq] at hm;exact ⟨b,hm.1,by simpa using this,hm.2,hb⟩
  ·cases this
 ·obtain ⟨k1,k2,x,k3,k4,_⟩:=hal b hb;exact ⟨isKa_ok k1,x,k3,k4⟩
 ·obtain ⟨_,_,x,k3,_,k5⟩:=hal b hb;rcases k5 i o ho hlk with h | h
  ·left;rw [k3,h]
  ·exact .inr ⟨x,k3,h⟩
 ·obtain ⟨_,k2,_⟩:=hal b hb;obtain ⟨o,e,i,q1,q2⟩:=alOp_ok k2;exact ⟨o,e,i,by simpa using q1,q2⟩
 ·obtain ⟨p,hp⟩:=List.getElem?_of_mem hb;obtain ⟨q,hq⟩:=List.getElem?_of_mem hc;obtain ⟨p1,p2⟩:=List.getElem?_eq_some_iff.1 hp;obtain ⟨q1,q2⟩:=List.getElem?_eq_some_iff.1 hq;rcases Nat.lt_trichotomy p q with hlt | heq | hgt
  ·exact absurd (by rw [p2,q2];exact he) ((List.pairwise_iff_getElem.1 hpw) p q p1 q1 hlt)
  ·subst heq;rw [← p2,← q2]
  ·exact absurd (by rw [p2,q2];exact he.symm) ((List.pairwise_iff_getElem.1 hpw) q p q1 p1 hgt)
def matX:List Al→XS→XS
 | [],s=>s
 | b :: r,s=>matX r ⟨s.sl.set b.t (some (.loc s.nk 0)),s.o.set s.nk (some (.box (b.l.map .d))),s.nk+1⟩
theorem matX_st:∀ (r:List Al) (s:XS),(matX r s).st=⟨matS r s.st.sl s.nk,(matO r (s.o.get,s.nk)).1,(matO r (s.o.get,s.nk)).2⟩
 | [],s=>rfl
 | b :: r,s=>by
  rw [matX,matX_st r];have e:(XS.st ⟨s.sl.set b.t (some (.loc s.nk 0)),s.o.set s.nk (some (.box (b.l.map .d))),s.nk+1⟩).sl=upd s.st.sl b.t (.loc s.nk 0):=by
   have:=put_st s (some b.t) (.loc s.nk 0) (s.o.set s.nk (some (.box (b.l.map .d)))) (s.nk+1);simp only [putD] at this;rw [this];rfl
  rw [e];simp only [matS,matO,TM.get_set]
theorem matO_matX (r:List Al) (s:XS):matO r (s.o.get,s.nk)=((matX r s).o.get,(matX r s).nk):=by
 have:=matX_st r s;simp only [XS.st,St.mk.injEq] at this;exact Prod.ext this.2.1.symm this.2.2.symm
theorem matS_hit {F:Nat→SV}:∀ (r:List Al) (sl:Nat→SV) (nk:Nat),(∀ (pos:Nat) (b:Al),r[pos]?=some b→F b.t=.loc (nk+pos) 0)→∀ u,matS r sl nk u=F u∨(matS r sl nk u=sl u∧∀ b∈r,b.t≠u)
 | [],sl,nk,_,u=>.inr ⟨rfl,by simp⟩
 | b :: r,sl,nk,h,u=>by
  rw [matS];have h0:=h 0 b rfl;rcases matS_hit (F:=F) r (upd sl b.t (.loc nk 0)) (nk+1) (fun pos c hc=>by rw [h (pos+1) c (by simpa using hc)];congr 1;omega) u with h1 | ⟨h1,h2⟩
  ·exact .inl h1
  ·by_cases hu:u=b.t
   ·subst hu;left;rw [h1,upd_same,h0];rfl
   ·right;refine ⟨by rw [h1,upd_ne _ _ hu],fun c hc=>?_⟩;rcases List.mem_cons.1 hc with rfl | hc
    ·exact Ne.symm hu
    ·exact h2 c hc
section
variable (Θ:Tab) (call:Nat→List SV→TM AO→Nat→Option XR)
def xDrP (ops:Array Oper) (al:List Al):List Oper→List KdP→XS→Option (List SV×List (TM AO×Nat)×TM SV)
 | [],[],s=>some ([],[],s.sl)
 | op :: r,.w j :: ks,s=>match matX (lsAt al j) s with
  | s1=>match xG Θ call ops op s1 with
   | none=>none
   | some (v,o',nk')=>match xDrP ops al r ks ⟨putD s1.sl op.dst v,o',nk'⟩ with
    | none=>none
    | some (vs,phs,sl)=>some (v :: vs,(o',nk') :: phs,sl)
 | op :: r,.q _ _ :: ks,s=>match xG Θ call ops op s with
  | none=>none
  | some (v,_,_)=>match xDrP ops al r ks ⟨putD s.sl op.dst v,s.o,s.nk⟩ with
   | none=>none
   | some (vs,phs,sl)=>some (v :: vs,phs,sl)
 | op :: r,.a _ _ :: ks,s=>match xDrP ops al r ks s with
  | none=>none
  | some (vs,phs,sl)=>some (.any :: vs,phs,sl)
 | _,_,_=>none
def patchV (L:List (TM AO×Nat)):List KdP→List SV→List SV
 | .a j k :: ks,_ :: vs=>(match L[j]? with
  | some (_,nk)=>.loc (nk+k) 0
  | none=>.any) :: patchV L ks vs
 | .q _ _ :: ks,v :: vs=>v :: patchV L ks vs
 | .w _ :: ks,v :: vs=>v :: patchV L ks vs
 | _,_=>[]
def xChkP (ops:Array Oper) (al:List Al) (L:List (TM AO×Nat)):List Oper→List KdP→List SV→TM SV→Nat→Bool
 | [],[],[],_,_=>true
 | op :: r,.w j :: ks,v :: vs,sl,p=>decide (j=p) && (match L[j]? with
  | none=>false
  | some (o,nk)=>xChkP ops al L r ks vs (putD (matX (lsAt al j) ⟨sl,o,nk⟩).sl op.dst v) (p+1))
 | op :: r,.q lo hi :: ks,v :: vs,sl,p=>isQ op.op && (allX (hi - lo) (fun q=>match L[q]? with
  | none=>false
  | some (o,nk)=>match xG Θ call ops op ⟨sl,o,nk⟩ with
   | none=>false
   | some (v2,_,nk2)=>SV.eqb v v2 && decide (nk2=nk)) lo) && xChkP ops al L r ks vs (putD sl op.dst v) p
 | op :: r,.a _ _ :: ks,v :: vs,sl,p=>xChkP ops al L r ks vs sl p
 | _,_,_,_,_=>false
end
theorem patch_len {L:List (TM AO×Nat)}:∀ (ks:List KdP) (vs:List SV),ks.length=vs.length→(patchV L ks vs).length=ks.length
 | [],[],_=>rfl
 | k :: ks,[],h=>by simp at h
 | [],v :: vs,h=>by simp at h
 | k :: ks,v :: vs,h=>by
  have:=patch_len (L:=L) ks vs (by simpa using h);cases k <;> simp [patchV,this]
theorem patch_a {L:List (TM AO×Nat)}:∀ (ks:List KdP) (vs:List SV) (i j k:Nat) (v:SV),ks[i]?=some (.a j k)→(patchV L ks vs)[i]?=some v→v=match L[j]? with
    | some (_,nk)=>.loc (nk+k) 0
    | none=>.any
  | [],vs,i,j,k,v,h,_=>by simp at h
  | q :: ks,[],i,j,k,v,_,h=>by cases q <;> simp [patchV] at h
  | q :: ks,x :: vs,0,j,k,v,h1,h2=>by
    simp only [List.getElem?_cons_zero,Option.some.injEq] at h1;subst h1;simp only [patchV,List.getElem?_cons_zero,Option.some.injEq] at h2;exact h2.symm
  | q :: ks,x :: vs,i+1,j,k,v,h1,h2=>by
    refine patch_a ks vs i j k v (by simpa using h1) ?_;cases q <;> simpa [patchV] using h2
theorem xDrP_len {Θ:Tab} {call:Nat→List SV→TM AO→Nat→Option XR} {ops:Array Oper} {al:List Al}:∀ (l:List Oper) (ks:List KdP) (s:XS) (vs:List SV) (phs:List (TM AO×Nat)) (fsl:TM SV),xDrP Θ call ops al l ks s=some (vs,phs,fsl)→vs.length=l.length∧ks.length=vs.length
 | [],[],s,vs,phs,fsl,h=>by simp only [xDrP,Option.some.injEq,Prod.mk.injEq] at h;obtain ⟨rfl,_,_⟩:=h;exact ⟨rfl,rfl⟩
 | [],k :: ks,s,vs,phs,fsl,h=>by simp [xDrP] at h
 | op :: r,[],s,vs,phs,fsl,h=>by simp [xDrP] at h
 | op :: r,.w j :: ks,s,vs,phs,fsl,h=>by
  simp only [xDrP] at h;split at h
  ·cases h
  ·split at h
   ·cases h
   ·rename_i hx;simp only [Option.some.injEq,Prod.mk.injEq] at h;obtain ⟨rfl,_,_⟩:=h;have:=xDrP_len r ks _ _ _ _ hx;simp [this.1,this.2]
 | op :: r,.q lo hi :: ks,s,vs,phs,fsl,h=>by
  simp only [xDrP] at h;split at h
  ·cases h
  ·split at h
   ·cases h
   ·rename_i hx;simp only [Option.some.injEq,Prod.mk.injEq] at h;obtain ⟨rfl,_,_⟩:=h;have:=xDrP_len r ks _ _ _ _ hx;simp [this.1,this.2]
 | op :: r,.a j k :: ks,s,vs,phs,fsl,h=>by
  simp only [xDrP] at h;split at h
  ·cases h
  ·rename_i hx;simp only [Option.some.injEq,Prod.mk.injEq] at h;obtain ⟨rfl,_,_⟩:=h;have:=xDrP_len r ks _ _ _ _ hx;simp [this.1,this.2]
theorem slAt_snoc {sl:Nat→SV} {d:Option Nat} {v:SV}:∀ (q:List (Option Nat×SV)) (sl:Nat→SV),slAt sl (q++[(d,v)])=pt (slAt sl q) d v
 | [],sl=>rfl
 | p :: q,sl=>by
  rw [List.cons_append,slAt,slAt];exact slAt_snoc (sl:=sl) q _
theorem drop_cons {α:Type} {l r:List α} {x:α} {i:Nat} (h:x :: r=l.drop i):l[i]?=some x∧r=l.drop (i+1):=by
 have h1:(l.drop i)[0]?=some x:=by rw [← h];rfl
 refine ⟨by simpa using h1,?_⟩;rw [← List.drop_drop,← h];rfl
section
variable {Θ:Tab} {call:Nat→List SV→TM AO→Nat→Option XR}
theorem xDrP_ok {P:Program} (hc:CallOk P call) {ops:Array Oper} {kd:List KdP} {wr:List Nat} {al:List Al} (fit:FitP Θ ops kd wr al) (hflow:flowOk ops=true) {L:List (TM AO×Nat)} {vsF:List SV} {sl0:Nat→SV} (hvl:vsF.length=ops.size) (hLl:wr.length < L.length)
    (hal:∀ (i j k:Nat) (v:SV),kd[i]?=some (.a j k)→vsF[i]?=some v→v=match L[j]? with
      | some (_,nk)=>.loc (nk+k) 0
      | none=>.any) {fsl:TM SV} :
    ∀ (l:List Oper) (ks:List KdP) (s:XS) (vs:List SV) (phs pre:List (TM AO×Nat)) (i p:Nat),l=ops.toList.drop i→ks=kd.drop i→xDrP Θ call ops al l ks s=some (vs,phs,fsl)→pre.length=p→L=pre++(s.o,s.nk) :: phs→
      xChkP Θ call ops al L l ks vs s.sl p=true→vsF.drop i=patchV L ks vs→
      (∀ u,s.st.sl u=slAt sl0 (((ops.toList.map (·.dst)).zip vsF).take i) u∨∃ b∈al,b.t=u∧b.i < i∧∀ x,wr[b.j]?=some x→i≤x)→
      (∀ (m:Nat) (o:Oper) (v:SV) (k:KdP),i≤m→ops[m]?=some o→vsF[m]?=some v→kd[m]?=some k→eOpP P Θ ops (phx L) al o (slAt sl0 (((ops.toList.map (·.dst)).zip vsF).take m)) v k)∧
      ∀ u,(fsl.get u).getD .any=slAt sl0 ((ops.toList.map (·.dst)).zip vsF) u:=by
  have hwlt:∀ j x,wr[j]?=some x→x < ops.size:=fun j x hj=>by
    have:=(List.getElem?_eq_some_iff.1 (fit.wk j x hj)).1;rw [fit.kl] at this;exact this
  have hon:∀ (i:Nat) (o:Oper),ops.toList[i]?=some o→∀ k∈onsOf o,k < i:=fun i o ho=>(flow_spec hflow (by simpa using ho)).1;have hancL:∀ (n i k:Nat),k∈(ancs ops.toList n).getD i []→k < i:=by
    intro n
    induction n with
    | zero=>intro i k hk;simp [ancs] at hk
    | succ n ih=>
      intro i k hk;by_cases hi:i < n
      · rw [ancs,List.getD_eq_getElem?_getD,List.getElem?_append_left (by rw [ancs_length];exact hi),← List.getD_eq_getElem?_getD] at hk;exact ih i k hk
      · by_cases he:i=n
        · subst he;rw [ancs,List.getD_eq_getElem?_getD,List.getElem?_append_right (by rw [ancs_length];exact Nat.le_refl _),ancs_length,Nat.sub_self] at hk;cases ho:ops.toList[i]? with
          | none=>rw [ho] at hk;simp at hk
          | some o=>
            rw [ho] at hk;simp only [List.getElem?_cons_zero,Option.getD_some,List.mem_eraseDups,List.mem_append,List.mem_flatMap] at hk;rcases hk with hk | ⟨j,hj,hk⟩
            · exact hon i o ho k hk
            · have:=hon i o ho j hj;have:=ih j k hk;omega
        · rw [List.getD_eq_getElem?_getD,List.getElem?_eq_none (by rw [ancs_length];omega)] at hk;simp at hk
  have hanc:∀ i k,ancB ops.toList i k=true→k < i:=fun i k h=>hancL _ i k (by simpa [ancB] using h);have hprs:∀ (i:Nat) (o:Oper) (v:SV),ops[i]?=some o→vsF[i]?=some v→((ops.toList.map (·.dst)).zip vsF)[i]?=some (o.dst,v):=fun i o v ho hv=>by
    rw [List.getElem?_zip_eq_some];refine ⟨?_,hv⟩;rw [List.getElem?_map];have:ops.toList[i]?=some o:=by simpa using ho
    rw [this];rfl
  have hback:∀ (j:Nat) (d:Option Nat) (v:SV),((ops.toList.map (·.dst)).zip vsF)[j]?=some (d,v)→∃ o,ops[j]?=some o∧o.dst=d∧vsF[j]?=some v:=fun j d v hj=>by
    rw [List.getElem?_zip_eq_some,List.getElem?_map] at hj;obtain ⟨h1,h2⟩:=hj;obtain ⟨o,ho,rfl⟩:=Option.map_eq_some_iff.1 h1;exact ⟨o,by simpa using ho,rfl,h2⟩
  have huniq:Uniq ((ops.toList.map (·.dst)).zip vsF):=fun i j u v x hi hj=>by
    obtain ⟨o,ho,hod,_⟩:=hback i _ v hi;obtain ⟨p,hp,hpd,_⟩:=hback j _ x hj;have:=(flow_spec hflow ho).2 j p hp;simp only [flowAt,hpd,Bool.and_eq_true,Bool.or_eq_true,beq_iff_eq] at this;rcases this.1 with h1 | h1
    · exact h1
    · simp [hod] at h1
  have hsnoc:∀ (i:Nat) (o:Oper) (v:SV),ops[i]?=some o→vsF[i]?=some v→slAt sl0 (((ops.toList.map (·.dst)).zip vsF).take (i+1))=pt (slAt sl0 (((ops.toList.map (·.dst)).zip vsF).take i)) o.dst v:=fun i o v ho hv=>by
    rw [List.take_add_one,hprs i o v ho hv];exact slAt_snoc (sl:=sl0) _ _
  have hpt:∀ (f g:Nat→SV) (d:Option Nat) (v:SV) (u:Nat),f u=g u→pt f d v u=pt g d v u:=fun f g d v u h=>by
    cases d with
    | none=>exact h
    | some d=>simp only [pt,upd,h]
  have hptd:∀ (f g:Nat→SV) (d:Option Nat) (v:SV) (u:Nat),d=some u→pt f d v u=pt g d v u:=fun f g d v u h=>by
    subst h;simp [pt,upd_same]
  have hptn:∀ (f:Nat→SV) (d:Option Nat) (v:SV) (u:Nat),d≠some u→pt f d v u=f u:=fun f d v u h=>by
    cases d with
    | none=>rfl
    | some d=>exact upd_ne _ _ fun e=>h (by rw [e])
  have hlook:∀ (i:Nat) (o:Oper) (b:Al),ops[i]?=some o→b∈al→b.t∈o.looksAt ops→(∀ x,wr[b.j]?=some x→i≤x)→wr[b.j]?=some i:=fun i o b ho hb hlk hx=>by
    rcases fit.us b hb i o ho hlk with h | ⟨x,h1,h2⟩
    · exact h
    · have:=hx x h1;have:=hanc _ _ h2;omega
  intro l
  induction l with
  | nil=>
    intro ks s vs phs pre i p hl hks h hp hL hk hvs hinv;cases ks with
    | cons k ks=>simp [xDrP] at h
    | nil=>
      simp only [xDrP,Option.some.injEq,Prod.mk.injEq] at h;obtain ⟨rfl,rfl,rfl⟩:=h;have hi:ops.size≤i:=by
        have:=congrArg List.length hl;simp at this;omega
      refine ⟨fun m o v k hm ho=>?_,fun u=>?_⟩
      · have:=(Array.getElem?_eq_some_iff.1 ho).1;omega
      · have e:((ops.toList.map (·.dst)).zip vsF).take i=(ops.toList.map (·.dst)).zip vsF:=List.take_of_length_le (by simp [hvl];omega);rcases hinv u with h | ⟨b,hb,rfl,h1,h2⟩
        · rw [← e];exact h
        · obtain ⟨_,x,hx,_⟩:=fit.aA b hb;have:=h2 x hx;have:=hwlt _ _ hx;omega
  | cons op r ihl=>
    intro ks s vs phs pre i p hl hks h hp hL hk hvs hinv;obtain ⟨hop,hr⟩:=drop_cons hl;have hop:ops[i]?=some op:=by simpa using hop
    have hilt:i < ops.size:=(Array.getElem?_eq_some_iff.1 hop).1;obtain ⟨v',hv'⟩:∃ v',vsF[i]?=some v':=⟨_,List.getElem?_eq_getElem (by omega)⟩;have hsn:=hsnoc i op v' hop hv';cases ks with
    | nil=>simp [xDrP] at h
    | cons k ks=>
      obtain ⟨hki,hks2⟩:=drop_cons hks;have fin:∀ (Z:Prop),(∀ (m:Nat) (o:Oper) (v:SV) (k:KdP),i+1≤m→ops[m]?=some o→vsF[m]?=some v→kd[m]?=some k→eOpP P Θ ops (phx L) al o (slAt sl0 (((ops.toList.map (·.dst)).zip vsF).take m)) v k)∧Z→
          eOpP P Θ ops (phx L) al op (slAt sl0 (((ops.toList.map (·.dst)).zip vsF).take i)) v' k→
          (∀ (m:Nat) (o:Oper) (v:SV) (k:KdP),i≤m→ops[m]?=some o→vsF[m]?=some v→kd[m]?=some k→eOpP P Θ ops (phx L) al o (slAt sl0 (((ops.toList.map (·.dst)).zip vsF).take m)) v k)∧Z:=by
        rintro Z ⟨h1,h2⟩ h3;refine ⟨fun m o v q hm ho hv hq=>?_,h2⟩;by_cases hmi:m=i
        · subst hmi;rw [hop] at ho;rw [hv'] at hv;rw [hki] at hq;simp only [Option.some.injEq] at ho hv hq;subst ho;subst hv;subst hq;exact h3
        · exact h1 m o v q (by omega) ho hv hq
      cases k with
      | a j k=>
        simp only [xDrP] at h;split at h
        · cases h
        · rename_i vs1 phs1 sl1 hx;simp only [Option.some.injEq,Prod.mk.injEq] at h;obtain ⟨rfl,rfl,rfl⟩:=h;simp only [xChkP] at hk;rw [patchV] at hvs;obtain ⟨_,hvs2⟩:=drop_cons hvs.symm;obtain ⟨b,hb,hbi,hbj,hbk⟩:=fit.a i j k hki;obtain ⟨o2,e2,i2,q1,q2,q3,q4,q5⟩:=fit.op b hb;rw [hbi,hop] at q1;simp only [Option.some.injEq] at q1;subst q1;refine fin _ (ihl ks s vs1 phs1 pre (i+1) p hr hks2 hx hp hL hk hvs2.symm fun u=>?_) ?_
          · by_cases hu:u=b.t
            · subst hu;obtain ⟨_,x,hx,hxa⟩:=fit.aA b hb;refine .inr ⟨b,hb,rfl,by omega,fun y hy=>?_⟩;rw [hx] at hy;simp only [Option.some.injEq] at hy;subst hy;have:=hanc _ _ hxa;omega
            · rw [hsn,hptn _ _ _ _ (by rw [q4];simpa using Ne.symm hu)];rcases hinv u with h | ⟨c,hc,h1,h2,h3⟩
              · exact .inl h
              · refine .inr ⟨c,hc,h1,by omega,fun x hx=>?_⟩;have:=h3 x hx;have hne:x≠i:=fun e=>by
                  have:=fit.wk _ _ hx;rw [e,hki] at this;cases this
                omega
          · show v'=_;rw [hal i j k v' hki hv'];simp only [phx];obtain ⟨_,x,hx2,_⟩:=fit.aA b hb;have:j < L.length:=by
              have:=(List.getElem?_eq_some_iff.1 hx2).1;omega
            rw [List.getElem?_eq_getElem this]
      | q lo hi=>
        simp only [xDrP] at h;split at h
        · cases h
        · rename_i v o' nk' hx;split at h
          · cases h
          · rename_i vs1 phs1 sl1 hx1;simp only [Option.some.injEq,Prod.mk.injEq] at h;obtain ⟨rfl,rfl,rfl⟩:=h;simp only [xChkP,Bool.and_eq_true] at hk;obtain ⟨⟨hq,hall⟩,hk⟩:=hk;rw [patchV] at hvs;obtain ⟨hv2,hvs2⟩:=drop_cons hvs.symm;rw [hv'] at hv2;simp only [Option.some.injEq] at hv2;subst hv2;have hnw:∀ j,wr[j]?≠some i:=fun j hj=>by
              have:=fit.wk _ _ hj;rw [hki] at this;cases this
            refine fin _ (ihl ks ⟨putD s.sl op.dst v',s.o,s.nk⟩ vs1 phs1 pre (i+1) p hr hks2 hx1 hp hL hk hvs2.symm fun u=>?_) ?_
            · rw [put_st];show pt s.st.sl op.dst v' u=_∨_;rw [hsn];by_cases hd:op.dst=some u
              · exact .inl (hptd _ _ _ _ _ hd)
              · rcases hinv u with h | ⟨c,hc,h1,h2,h3⟩
                · exact .inl (hpt _ _ _ _ _ h)
                · refine .inr ⟨c,hc,h1,by omega,fun x hx=>?_⟩;have:=h3 x hx;have hne:x≠i:=fun e=>hnw _ (e ▸ hx);omega
            · simp only [eOpP];refine allX_ok (fun q hqq=>?_) _ _ hall;split at hqq
              · cases hqq
              · rename_i o2 nk2 hLq;split at hqq
                · cases hqq
                · rename_i v2 o3 nk3 hg;simp only [Bool.and_eq_true,decide_eq_true_eq] at hqq;have hv:=SV.eqb_ok hqq.1;subst hv;have:=xG_q (P:=P) hc hq hg hqq.2;simp only [phx,hLq];refine gOp_congr (s:=⟨s.st.sl,o2.get,nk2⟩) (fun u hu=>?_) rfl rfl this;rcases hinv u with h | ⟨c,hc,h1,h2,h3⟩
                  · exact h
                  · subst h1;exact absurd (hlook i op c hop hc hu h3) (hnw _)
      | w j=>
        simp only [xDrP] at h;obtain ⟨hwj,hky⟩:=fit.w i j hki;split at h
        · cases h
        · rename_i v o' nk' hx;split at h
          · cases h
          · rename_i vs1 phs1 sl1 hx1;simp only [Option.some.injEq,Prod.mk.injEq] at h;obtain ⟨rfl,rfl,rfl⟩:=h;simp only [xChkP,Bool.and_eq_true,decide_eq_true_eq] at hk;obtain ⟨rfl,hk⟩:=hk;have hLp:L[j]?=some (s.o,s.nk):=by rw [hL,List.getElem?_append_right (by omega),hp];simp
            have hLp1:L[j+1]?=some (o',nk'):=by rw [hL,List.getElem?_append_right (by omega),hp];simp
            rw [hLp] at hk;simp only at hk;rw [patchV] at hvs;obtain ⟨hv2,hvs2⟩:=drop_cons hvs.symm;rw [hv'] at hv2;simp only [Option.some.injEq] at hv2;subst hv2;have hF:∀ (pos:Nat) (b:Al),(lsAt al j)[pos]?=some b→slAt sl0 (((ops.toList.map (·.dst)).zip vsF).take i) b.t=.loc (s.nk+pos) 0:=fun pos b hb=>by
              have hm:=List.mem_of_getElem? hb;simp only [lsAt,List.mem_filter,decide_eq_true_eq] at hm;obtain ⟨hbm,hbj⟩:=hm;obtain ⟨o2,e2,i2,q1,_,_,q4,_⟩:=fit.op b hbm;obtain ⟨⟨k,hk⟩,x,hx,hxa⟩:=fit.aA b hbm;obtain ⟨c,hc,hci,hcj,hck⟩:=fit.a _ _ _ hk;obtain rfl:=fit.inj c hc b hbm hci;have hkp:k=pos:=by
                rw [hbj] at hck;obtain ⟨q1,q2⟩:=List.getElem?_eq_some_iff.1 hck;obtain ⟨q3,q4⟩:=List.getElem?_eq_some_iff.1 hb;rcases Nat.lt_trichotomy k pos with hlt | heq | hgt
                · exact absurd (by rw [q2,q4]) ((List.pairwise_iff_getElem.1 (fit.ndL j)) k pos q1 q3 hlt)
                · exact heq
                · exact absurd (by rw [q2,q4]) ((List.pairwise_iff_getElem.1 (fit.ndL j)) pos k q3 q1 hgt)
              rw [hbj,hwj] at hx;simp only [Option.some.injEq] at hx;subst hx;have hlt:=hanc _ _ hxa;have hvb:vsF[c.i]?=some (vsF[c.i]'(by omega)):=List.getElem?_eq_getElem _;have hval:=hal c.i c.j k _ hk hvb;rw [hbj,hLp] at hval;simp only at hval;have hpr:=hprs c.i o2 _ q1 hvb;rw [hval,q4,hkp] at hpr;refine slAt_hit _ _ c.i (by rw [List.getElem?_take,if_pos hlt];exact hpr) fun m y hm=>?_;rw [List.getElem?_take] at hm;split at hm
              · exact huniq m c.i c.t y _ hm hpr
              · cases hm
            have hinv1:∀ u,(matX (lsAt al j) s).st.sl u=slAt sl0 (((ops.toList.map (·.dst)).zip vsF).take i) u∨∃ b∈al,b.t=u∧b.j≠j∧b.i < i∧∀ x,wr[b.j]?=some x→i≤x:=fun u=>by
              rw [matX_st];rcases matS_hit (F:=slAt sl0 (((ops.toList.map (·.dst)).zip vsF).take i)) (lsAt al j) s.st.sl s.nk hF u with h | ⟨h1,h2⟩
              · exact .inl h
              · rcases hinv u with h | ⟨c,hc,q1,q2,q3⟩
                · exact .inl (h1.trans h)
                · refine .inr ⟨c,hc,q1,fun e=>?_,q2,q3⟩;exact h2 c (by simp [lsAt,hc,e]) q1
            refine fin _ (ihl ks ⟨putD (matX (lsAt al j) s).sl op.dst v',o',nk'⟩ vs1 phs1 (pre++[(s.o,s.nk)]) (i+1) (j+1) hr hks2 hx1 (by simp [hp]) (by rw [hL];simp) hk hvs2.symm fun u=>?_) ?_
            · rw [put_st];show pt (matX (lsAt al j) s).st.sl op.dst v' u=_∨_;rw [hsn];by_cases hd:op.dst=some u
              · exact .inl (hptd _ _ _ _ _ hd)
              · rcases hinv1 u with h | ⟨c,hc,h1,hne,h2,h3⟩
                · exact .inl (hpt _ _ _ _ _ h)
                · refine .inr ⟨c,hc,h1,by omega,fun x hx=>?_⟩;have:=h3 x hx;have hne:x≠i:=fun e=>by
                    have h4:=fit.wk _ _ hx;rw [e,hki] at h4;simp only [Option.some.injEq,KdP.w.injEq] at h4;exact hne h4.symm
                  omega
            · have hm1:matO (lsAt al j) (s.o.get,s.nk)=((matX (lsAt al j) s).o.get,(matX (lsAt al j) s).nk):=matO_matX _ _;simp only [eOpP,phx,hLp,hLp1,hm1];have hsl:∀ u∈op.looksAt ops,(matX (lsAt al j) s).st.sl u=slAt sl0 (((ops.toList.map (·.dst)).zip vsF).take i) u:=fun u hu=>by
                rcases hinv1 u with h | ⟨c,hc,h1,hne,h2,h3⟩
                · exact h
                · subst h1;have:=hlook i op c hop hc hu h3;have h4:=fit.wk _ _ this;rw [hki] at h4;simp only [Option.some.injEq,KdP.w.injEq] at h4;exact absurd h4.symm hne
              have hgd:∀ c,gdc ops (matX (lsAt al j) s).st op.guard c→gdc ops ⟨slAt sl0 (((ops.toList.map (·.dst)).zip vsF).take i),(matX (lsAt al j) s).o.get,(matX (lsAt al j) s).nk⟩ op.guard c:=fun c hgc=>by
                unfold gdc at hgc ⊢;split at hgc
                · exact hgc
                · rename_i q want hg;have hgs:gsl ops (matX (lsAt al j) s).st q=gsl ops ⟨slAt sl0 (((ops.toList.map (·.dst)).zip vsF).take i),(matX (lsAt al j) s).o.get,(matX (lsAt al j) s).nk⟩ q:=by
                    unfold gsl;split
                    · rename_i d hd;refine hsl d ?_;simp only [Oper.looksAt,List.mem_append,List.mem_filterMap];right;rw [hg];simp [hd]
                    · rfl
                  rw [← hgs];exact hgc
              unfold xG at hx;split at hx
              · cases hx
              · rename_i hg;simp only [Option.some.injEq,Prod.mk.injEq] at hx;obtain ⟨rfl,rfl,rfl⟩:=hx;exact ⟨false,.any,hgd _ (xGuard_ok hg),fun e=>(by cases e),fun _=>rfl,(cnd_F _).symm⟩
              · rename_i hg;refine ⟨true,v',hgd _ (xGuard_ok hg),fun _=>?_,fun e=>(by cases e),(cnd_T v').symm⟩;refine vOp_congr (s:=(matX (lsAt al j) s).st) (fun x hx'=>?_) rfl rfl (xOp_ok hc hx (K:=fun v'' o'' nk''=>v''=v'∧o''=o'.get∧nk''=nk') ⟨rfl,rfl,rfl⟩);cases x with
                | tmp t=>
                  refine hsl t ?_;simp only [Oper.looksAt,List.mem_append,List.mem_filterMap];exact .inl ⟨.tmp t,by simpa using hx',rfl⟩
                | _=>rfl
end
def ordB (an:List (List Nat)) (i k:Nat):Bool:=(an.getD i []).contains k || (an.getD k []).contains i
def isPA (op:Oper):Bool:=
 match op.op with
 | .alloc _=>op.guard.isNone && op.dst.isSome
 | _=>false
def pendL (ops:List Oper) (an:List (List Nat)) (ws:List Nat):List Nat:=ws.filter fun i=>(match ops[i]? with
 | some o=>isPA o
 | none=>false) && !(ws.all fun k=>Nat.beq i k || ordB an i k)
def mkAl (Θ:Tab) (ops:List Oper) (an:List (List Nat)) (wr:List Nat):List Nat→List Al
 | []=>[]
 | i :: r=>match ops[i]? with
  | some o=>match o.op,o.dst with
   | .alloc e,some t=>match Θ e with
    | some ti=>match ti.z with
     | some l=>⟨i,t,takeN (fun x=>!(an.getD x []).contains i) wr,l⟩ :: mkAl Θ ops an wr r
     | none=>[]
    | none=>[]
   | _,_=>[]
  | none=>[]
def plA (i:Nat):List Al→List Al→Option (Nat×Nat)
 | _,[]=>none
 | seen,b :: r=>bif Nat.beq b.i i then some (b.j,(seen.filter fun c=>Nat.beq c.j b.j).length) else plA i (seen++[b]) r
def kdP (an:List (List Nat)) (wr:List Nat) (al:List Al):List Oper→Nat→Nat→List KdP
 | [],_,_=>[]
 | op :: r,i,j=>match plA i [] al with
  | some (a,k)=>.a a k :: kdP an wr al r (i+1) j
  | none=>bif isW op.op then .w j :: kdP an wr al r (i+1) (j+1)
   else .q (takeN (fun w=>(an.getD i []).contains w) wr) (takeN (fun w=>!(an.getD w []).contains i) wr) :: kdP an wr al r (i+1) j
def clrA:List Al→TM SV→TM SV
 | [],sl=>sl
 | b :: r,sl=>clrA r (sl.set b.t none)
theorem clrA_get:∀ (al:List Al) (sl:TM SV) (u:Nat),(clrA al sl).get u=sl.get u∨(clrA al sl).get u=none
 | [],sl,u=>.inl rfl
 | b :: r,sl,u=>by
  rw [clrA];rcases clrA_get r (sl.set b.t none) u with h | h
  ·rw [h,TM.get_set];unfold upd;split
   ·exact .inr rfl
   ·exact .inl rfl
  ·exact .inr h
theorem clrA_al:∀ (al:List Al) (sl:TM SV),∀ b∈al,(clrA al sl).get b.t=none
 | [],sl,b,h=>by simp at h
 | b :: r,sl,c,h=>by
  rw [clrA];rcases List.mem_cons.1 h with rfl | h
  ·rcases clrA_get r (sl.set c.t none) c.t with h | h
   ·rw [h,TM.get_set,upd_same]
   ·exact h
  ·exact clrA_al r _ c h
section
variable (Θ:Tab) (call:Nat→List SV→TM AO→Nat→Option XR)
def xDrawP1 (ops:Array Oper) (kd:List KdP) (wr:List Nat) (al:List Al) (s:XS):Option XS:=
  bif flowOk ops && fitB Θ ops kd wr al then match clrA al s.sl with
    | sl0=>match xDrP Θ call ops al ops.toList kd ⟨sl0,s.o,s.nk⟩ with
      | none=>none
      | some (vs,phs,sl)=>match (s.o,s.nk) :: phs with
        | L=>bif xChkP Θ call ops al L ops.toList kd vs sl0 0 then match L[wr.length]? with
            | none=>none
            | some (o,nk)=>bif Nat.beq wr.length phs.length then some ⟨sl,o,nk⟩ else none
          else none
  else none
def xDrawP (ops:Array Oper) (s:XS):Option XS:=
 match ops.toList with
 | l=>match ancs l l.length with
  | an=>match wrGo l 0 with
   | ws=>match pendL l an ws with
    | pn=>match ws.filter fun i=>!pn.contains i with
     | wr=>match mkAl Θ l an wr pn with
      | al=>xDrawP1 Θ call ops (kdP an wr al l 0 0) wr al s
theorem xDrawP1_ok {P:Program} {n k0:Nat} {Q:Exit→St→Prop} (hΘ:TabOk P Θ) (hm:P.follows .mixedOrders=true) (hc:CallOk P call) {id:Nat} {ops:Array Oper} {kd:List KdP} {wr:List Nat} {al:List Al} {s s':XS} (hd:(ops.toList.all fun o=>dstOk n o.dst)=true) (h:xDrawP1 Θ call ops kd wr al s=some s') (hQ:Q .normal s'.st) :
    WP P n k0 (.region id ops true) s.st Q:=by
  unfold xDrawP1 at h;cases hb:flowOk ops && fitB Θ ops kd wr al with
  | false=>rw [hb] at h;cases h
  | true=>
    rw [hb] at h;simp only [cond_true] at h;simp only [Bool.and_eq_true] at hb;have fit:=fitB_ok hb.2;split at h
    · cases h
    · rename_i vs phs sl hx;cases hk:xChkP Θ call ops al ((s.o,s.nk) :: phs) ops.toList kd vs (clrA al s.sl) 0 with
      | false=>rw [hk] at h;cases h
      | true=>
        rw [hk] at h;simp only [cond_true] at h;split at h
        · cases h
        · rename_i o nk hL;cases he:Nat.beq wr.length phs.length with
          | false=>rw [he] at h;cases h
          | true=>
            rw [he] at h;simp only [cond_true,Option.some.injEq] at h;subst h;have hlen:=Nat.eq_of_beq_eq_true he;obtain ⟨l1,l2⟩:=xDrP_len _ _ _ _ _ _ hx;have hpl:(patchV ((s.o,s.nk) :: phs) kd vs).length=ops.size:=by rw [patch_len _ _ l2,fit.kl]
            obtain ⟨k1,k2⟩:=xDrP_ok (P:=P) (sl0:=fun u=>((clrA al s.sl).get u).getD .any) hc fit hb.1 hpl (by simp;omega) (fun i j k v h1 h2=>patch_a _ _ _ _ _ _ h1 h2) ops.toList kd ⟨clrA al s.sl,s.o,s.nk⟩ vs phs [] 0 0 rfl rfl hx rfl rfl hk rfl (fun u=>.inl rfl);have hw:WP P n k0 (.region id ops true) ⟨fun u=>((clrA al s.sl).get u).getD .any,(phx ((s.o,s.nk) :: phs) 0).1,(phx ((s.o,s.nk) :: phs) 0).2⟩ Q:=by
              refine WP.drawnP (P:=P) (Θ:=Θ) (n:=n) (k0:=k0) (Q:=Q) hΘ hm (id:=id) (ops:=ops) fit (phx ((s.o,s.nk) :: phs)) (patchV ((s.o,s.nk) :: phs) kd vs) hd hb.1 hpl (fun b hb=>by simp only [clrA_al al s.sl b hb];rfl) (fun i o v k ho hv hk=>k1 i o v k (Nat.zero_le _) ho hv hk) ?_;have e:slAt (fun u=>((clrA al s.sl).get u).getD .any) ((ops.toList.map (·.dst)).zip (patchV ((s.o,s.nk) :: phs) kd vs))=fun u=>(sl.get u).getD .any:=funext fun u=>(k2 u).symm;rw [e];simp only [phx,hL];exact hQ
            refine WP.of (fun E a w _ hr=>?_) hw;obtain ⟨S,γ,hr⟩:=hr;refine ⟨S,γ,hr.sto,hr.tr,fun u=>?_,fun u=>?_,hr.df,hr.nn⟩
            · show SR w S γ _ (((clrA al s.sl).get u).getD .any) _;rcases clrA_get al s.sl u with h | h
              · rw [h];exact hr.sl u
              · rw [h];exact .any _
            · show (((clrA al s.sl).get u).getD .any).lt _;rcases clrA_get al s.sl u with h | h
              · rw [h];exact hr.slt u
              · rw [h];trivial
theorem xDrawP_ok {P:Program} {n k0:Nat} {Q:Exit→St→Prop} (hΘ:TabOk P Θ) (hm:P.follows .mixedOrders=true) (hc:CallOk P call) {id:Nat} {ops:Array Oper} {s s':XS} (hd:(ops.toList.all fun o=>dstOk n o.dst)=true) (h:xDrawP Θ call ops s=some s') (hQ:Q .normal s'.st) :
 WP P n k0 (.region id ops true) s.st Q:=xDrawP1_ok Θ call hΘ hm hc hd h hQ
end
section
variable {P:Program} {Θ:Tab} {n k0:Nat} {Q:Exit→St→Prop}
end
section
variable {P:Program} {Θ:Tab} {ops:Array Oper} {K:St→Prop} {r:List Oper} {sl:Nat→SV} {d ty j lo m nk nk' i e:Nat} {o o':Nat→Option AO} {op:Op} {pos:String} {af:Array Edge} {want c:Bool} {v:SV} {L:List Ob} {ks:List KdP} {al:List Al}
end
section
variable {P:Program} {Θ:Tab} {K:SV→(Nat→Option AO)→Nat→Prop} {sl:Nat→SV} {o:Nat→Option AO} {nk:Nat} {x y:Operand} {t e:Nat}
theorem o_bsr {n:Nat} {i j:TI} {l xs:List D} {ps:Array (Nat×Operand)} (hp:partsL j.sz 0 (ps.toList.map fun p=>(p.1,ev sl p.2))=some xs) (hi:Θ t=some i) (hk:i.k=.slice e) (hj:Θ e=some j) (hz:j.z=some l) (hl:l.length=j.sz) (hpos:0 < j.sz) (hn:xs.length=n) (hs:n * j.sz≤16777216) (hn0:n≠0) (h:K (.row nk) (upd o nk (some (.row e j.sz xs))) (nk+1)):vOp P Θ (.buildSlice t n ps) ⟨sl,o,nk⟩ K:=
 .inl ⟨i,e,j,l,xs,hi,hk,hj,hz,hl,hpos,hp,hn,hs,by rw [if_neg hn0];exact .inr (.inr h)⟩
theorem g_bsr {n:Nat} {i j:TI} {l xs:List D} {ps:Array (Nat×Operand)} (hp:partsL j.sz 0 (ps.toList.map fun p=>(p.1,ev sl p.2))=some xs) (hi:Θ t=some i) (hk:i.k=.slice e) (hj:Θ e=some j) (hz:j.z=some l) (hl:l.length=j.sz) (hpos:0 < j.sz) (hn:xs.length=n) (hs:n * j.sz≤16777216) (hn0:n≠0)
    (h:∀ o1,o1 nk=some (.row e j.sz xs)→(∀ t,t≠nk→o1 t=o t)→K (.row nk) o1 (nk+1)):vOp P Θ (.buildSlice t n ps) ⟨sl,o,nk⟩ K:=
  o_bsr hp hi hk hj hz hl hpos hn hs hn0 (h _ (upd_same _ _ _) fun _ ht=>upd_ne _ _ ht)
end
def MSpec (P:Program) (f:FuncId) (args:Nat→List SV) (cs cs':List SV) (r:SV):Prop:=
 ∀ (o:Nat→Option AO) (nk k:Nat),o k=some (.box cs)→Spec P f (args k) o nk fun r' o' nk'=>r'=r∧o'=upd o k (some (.box cs'))∧nk'=nk
theorem Spec.pureM {P:Program} {f:FuncId} {args:List SV} {o:Nat→Option AO} {nk k:Nat} {r:SV} {cs cs':List SV} (hM:o k=some (.box cs)) (hcs:∀ m,SV.lts m cs') (hr:∀ m,r.lt m) (hid:r.ren id=r)
    (h:k < nk→Spec P f args o nk fun r' o' nk'=>r'=r∧nk≤nk'∧o' k=some (.box cs')∧∀ t,t < nk∧t≠k→o' t=o t):Spec P f args o nk fun r' o' nk'=>r'=r∧o'=upd o k (some (.box cs'))∧nk'=nk:=by
  intro w S γ vs h1 h2 h3 h4;have hkn:k < nk:=h1.o_lt k _ hM;refine (h hkn w S γ vs h1 h2 h3 h4).mono ?_;rintro v w' ⟨r',o',nk',S',γ',⟨rfl,hnk,hok,ho⟩,hs,ht,hsr,hl⟩;have hk:Wko nk id o' (upd o k (some (.box cs'))) nk:=by
    refine ⟨Nat.le_refl _,fun t x hx=>?_,fun t t' x x' _ _ e=>e,fun _ _ _ _=>rfl⟩;by_cases htk:t=k
    · subst htk;rw [upd_same] at hx;simp only [Option.some.injEq] at hx;subst hx;exact ⟨hkn,by rw [AO.ren_id];exact hok,hcs nk⟩
    · rw [upd_ne _ _ htk] at hx;have hlt:=h1.o_lt t x hx;refine ⟨hlt,by rw [AO.ren_id];show o' t=some x;rw [ho t ⟨hlt,htk⟩,hx],?_⟩;cases x with
      | box cs=>exact (h1.box t cs hx).2
      | row e z xs=>trivial
      | raw ob=>trivial
  exact ⟨r',_,nk,S',γ' ∘ id,⟨rfl,rfl,rfl⟩,hk.sto hs,hk.tr ht,hsr.of_ren (fun t x hx=>(hk.o t x hx).2.1) r' hid,hr _⟩
theorem MSpec.of {P:Program} {f:FuncId} {n:Nat} {ts:List Nat} {c:Code} {args:Nat→List SV} {cs cs':List SV} {r:SV} (hf:FnOk P f n ts c) (hn:∀ k,(args k).length≤n) (hcs:∀ m,SV.lts m cs') (hr:∀ m,r.lt m) (hid:r.ren id=r)
    (h:∀ o nk k,k < nk→o k=some (.box cs)→WP P n nk c ⟨slots (args k),o,nk⟩ (retQ ts fun r' o' nk'=>r'=r∧nk≤nk'∧o' k=some (.box cs')∧∀ t,t < nk∧t≠k→o' t=o t)):MSpec P f args cs cs' r:=
  fun o nk k hM=>Spec.pureM hM hcs hr hid fun hk=>Spec.of_body hf (hn k) (h o nk k hk hM)
theorem retM_ok {ts:List Nat} {sl:Nat→SV} {o o0:Nat→Option AO} {nk nk0 k:Nat} {x y:SV} {cs:List SV} (h1:resOf ts ⟨sl,o,nk⟩=y) (h2:y=x) (h3:nk0≤nk) (hk:o k=some (.box cs)) (h4:∀ t,t < nk0∧t≠k→o t=o0 t) :
 retQ ts (fun r o' nk'=>r=x∧nk0≤nk'∧o' k=some (.box cs)∧∀ t,t < nk0∧t≠k→o' t=o0 t) .ret ⟨sl,o,nk⟩:=⟨by rw [h1,h2],h3,hk,h4⟩
theorem endM_ok {ts:List Nat} {sl:Nat→SV} {o o0:Nat→Option AO} {nk nk0 k:Nat} {x y:SV} {cs:List SV} (h1:resOf ts ⟨sl,o,nk⟩=y) (h2:y=x) (h3:nk0≤nk) (hk:o k=some (.box cs)) (h4:∀ t,t < nk0∧t≠k→o t=o0 t) :
 retQ ts (fun r o' nk'=>r=x∧nk0≤nk'∧o' k=some (.box cs)∧∀ t,t < nk0∧t≠k→o' t=o0 t) .normal ⟨sl,o,nk⟩:=⟨by rw [h1,h2],h3,hk,h4⟩
section
variable {P:Program} {Θ:Tab} {K:SV→(Nat→Option AO)→Nat→Prop} {sl:Nat→SV} {o:Nat→Option AO} {nk:Nat} {x y:Operand} {t:Nat}
theorem g_mcall {g:FuncId} {asx:Array Operand} {ts:Array Nat} {args:Nat→List SV} {r:SV} {cs cs':List SV} {k:Nat} (hs:MSpec P g args cs cs' r) (ho:o k=some (.box cs)) (ha:asx.toList.map (ev sl)=args k) (h:∀ o1,o1 k=some (.box cs')→(∀ t,t≠k→o1 t=o t)→K r o1 nk):vOp P Θ (.call { callee:=.value (.func g),args:=asx,argTypes:=ts }) ⟨sl,o,nk⟩ K:=
 o_call (hs o nk k ho) ha (by rintro r' o' nk' ⟨rfl,rfl,rfl⟩;exact h _ (upd_same _ _ _) fun u hu=>upd_ne _ _ hu)
theorem o_pnil {i:TI} {e q g u:Nat} {cs:List SV} (hx:ev sl x=.loc q g) (hy:ev sl y=.d .nilp) (hi:Θ t=some i) (hk:i.k=.ptr e) (ho:o q=some (.box cs)) (h:K (.d (.bool false)) o nk):vOp P Θ (.binOp .eql t x y u) ⟨sl,o,nk⟩ K:=by
 refine Or.inl ?_;show bnOp Θ o .eql t (ev sl x) (ev sl y) (fun v=>K v o nk);rw [hx,hy];exact xbn_ok Θ (r:=.bool false) (by simp [xbn,hi,hk,ho]) h
theorem o_pnnil {i:TI} {e q g u:Nat} {cs:List SV} (hx:ev sl x=.loc q g) (hy:ev sl y=.d .nilp) (hi:Θ t=some i) (hk:i.k=.ptr e) (ho:o q=some (.box cs)) (h:K (.d (.bool true)) o nk):vOp P Θ (.binOp .neq t x y u) ⟨sl,o,nk⟩ K:=by
 refine Or.inl ?_;show bnOp Θ o .neq t (ev sl x) (ev sl y) (fun v=>K v o nk);rw [hx,hy];exact xbn_ok Θ (r:=.bool true) (by simp [xbn,hi,hk,ho]) h
end
theorem Spec.weak {P:Program} {f:FuncId} {args:List SV} {o:Nat→Option AO} {nk:Nat} {x:D} {Q:(Nat→Option AO)→Nat→Prop} (h:Spec P f args o nk fun r o' nk'=>(∃ x',r=.d x'∧D.le x' x)∧Q o' nk'):Spec P f args o nk fun r o' nk'=>r=.d x∧Q o' nk':=by
 intro w S γ vs h1 h2 h3 h4;refine (h w S γ vs h1 h2 h3 h4).mono ?_;rintro v w' ⟨r',o',nk',S',γ',⟨⟨x',rfl,hle⟩,hq⟩,hs,ht,hsr,hl⟩;refine ⟨.d x,o',nk',S',γ',⟨rfl,hq⟩,hs,ht,?_,trivial⟩;cases hsr with
 | d _ _ hr=>exact .d _ _ (hr.le hle)
theorem MSpec.ofC {P:Program} {Θ:Tab} (hΘ:TabOk P Θ) {f:FuncId} {n:Nat} {rs:List ResultVar} {c:Code} {args:Nat→List SV} {cs cs':List SV} {x:D} (hf:FnOkC P f n rs c) (hn:∀ k,(args k).length≤n) (hcs:∀ m,SV.lts m cs')
    (h:∀ o nk k,k < nk→o k=some (.box cs)→WP P n nk c ⟨slots (args k),o,nk⟩ (retC Θ rs fun r' o' nk'=>(∃ x',r'=.d x'∧D.le x' x)∧nk≤nk'∧o' k=some (.box cs')∧∀ t,t < nk∧t≠k→o' t=o t)):MSpec P f args cs cs' (.d x):=
  fun o nk k hM=>Spec.pureM hM hcs (fun _=>trivial) rfl fun hk=>Spec.weak (Q:=fun o' nk'=>nk≤nk'∧o' k=some (.box cs')∧∀ t,t < nk∧t≠k→o' t=o t) (Spec.of_bodyC hΘ hf (hn k) (h o nk k hk hM))
theorem retCM_ok {Θ:Tab} {a t:Nat} {sl:Nat→SV} {o o0:Nat→Option AO} {nk nk0 k:Nat} {x x':D} {cs:List SV} (h1:ResIs Θ ⟨sl,o,nk⟩ (.cell a t) (.d x')) (hx:D.le x' x) (h3:nk0≤nk) (hk:o k=some (.box cs)) (h4:∀ t,t < nk0∧t≠k→o t=o0 t) :
    retC Θ [.cell a t] (fun r o' nk'=>(∃ x',r=.d x'∧D.le x' x)∧nk0≤nk'∧o' k=some (.box cs)∧∀ t,t < nk0∧t≠k→o' t=o0 t) .ret ⟨sl,o,nk⟩:=
  ⟨[.d x'],⟨h1,trivial⟩,⟨x',rfl,hx⟩,h3,hk,h4⟩
theorem w_mcall {P:Program} {Θ:Tab} {K:SV→(Nat→Option AO)→Nat→Prop} {sl:Nat→SV} {o:Nat→Option AO} {nk:Nat} {g:FuncId} {asx:Array Operand} {ts:Array Nat} {args:Nat→List SV} {r:SV} {cs cs':List SV} {k:Nat} (hs:MSpec P g args cs cs' r) (ho:o k=some (.box cs)) (ha:asx.toList.map (ev sl)=args k) (h:K r (upd o k (some (.box cs'))) nk):vOp P Θ (.call { callee:=.value (.func g),args:=asx,argTypes:=ts }) ⟨sl,o,nk⟩ K:=
 o_call (hs o nk k ho) ha (by rintro r' o' nk' ⟨rfl,rfl,rfl⟩;exact h)
theorem WP.frzC4 {P:Program} {n k0:Nat} {Q:Exit→St→Prop} {c:Code} {sl:Nat→SV} {o:Nat→Option AO} {nk:Nat} (l:List (Nat×SV)) (k:Nat) {b e z:Nat} {pre post:List SV} {x:SV} {q:Option Nat} {xs:List D} (hb:o b=some (.box (pre++x :: post))) (hx:dstOf o e z x=some (q,xs)) (hkb:k≤b)
    (hp:∀ t,q=some t→pre.map (SV.frz t (.sl z xs))=pre∧post.map (SV.frz t (.sl z xs))=post) (hl:∀ t,q=some t→∀ p∈l,(sl p.1).frz t (.sl z xs)=p.2) (hl0:q=none→∀ p∈l,sl p.1=p.2)
    (h:∀ o1,o1 b=some (.box (pre ++ .d (.sl z xs) :: post))→(∀ u,u < k→q≠some u→o1 u=o u)→(∀ u cs,u≠b→o u=some (.box cs)→(∀ t,q=some t→cs.map (SV.frz t (.sl z xs))=cs)→o1 u=some (.box cs))→(∀ u e z xs,q≠some u→o u=some (.row e z xs)→o1 u=some (.row e z xs))→WP P n k0 c ⟨al l,o1,nk⟩ Q):WP P n k0 c ⟨sl,o,nk⟩ Q:=by
  cases q with
  | none=>
    have hn:x=.d .nil∧xs=[]:=by
      unfold dstOf at hx;split at hx <;> first | cases hx | skip
      · exact ⟨rfl,rfl⟩
      · split at hx
        · split at hx <;> cases hx
        · cases hx
    obtain ⟨rfl,rfl⟩:=hn;have les_refl:∀ ds:List SV,SV.les ds ds:=fun ds=>by
      induction ds with
      | nil=>trivial
      | cons d ds ih=>
        refine ⟨?_,ih⟩;cases d <;> first | exact D.le_refl _ | rfl
    have hle:SV.les (pre ++ .d .nil :: post) (pre ++ .d (.sl z []) :: post):=by
      clear hb hp hl h
      induction pre with
      | nil=>exact ⟨rfl,les_refl post⟩
      | cons d ds ih=>
        refine ⟨?_,ih⟩;cases d <;> first | exact D.le_refl _ | rfl
    refine WP.le (Le.al (hl0 rfl)) (WP.leB _ hb hle fun o1 h1 h2=>h o1 h1 (fun u hu _=>h2 u (by omega)) (fun u cs hu hcs _=>(h2 u hu).trans hcs) fun u e z xs _ hu=>(h2 u (fun e=>by rw [e,hb] at hu;cases hu)).trans hu)
  | some t=>
    have hn:x=.row t∧o t=some (.row e z xs):=by
      unfold dstOf at hx;split at hx <;> first | cases hx | skip
      split at hx
      · split at hx
        · rename_i h1 h2;simp only [Option.some.injEq,Prod.mk.injEq] at hx;obtain ⟨rfl,rfl⟩:=hx;obtain ⟨rfl,rfl⟩:=h2;exact ⟨rfl,h1⟩
        · cases hx
      · cases hx
    obtain ⟨rfl,ht⟩:=hn;have hbt:b≠t:=fun e=>by rw [e,ht] at hb;cases hb
    refine WP.frzL l k ht (hl t rfl) fun o1 h1 h2=>h o1 ?_ (fun u hu hq=>h1 u (fun e=>hq (by rw [e])) hu) (fun u cs hu hcs hm=>?_) fun u e0 z0 xs0 hq hu=>?_;rotate_left
    · have hut:u≠t:=fun e=>by rw [e,ht] at hcs;cases hcs
      rcases Nat.lt_or_ge u k with hk | hk
      · rw [h1 u hut hk,hcs]
      · rw [h2 u hut hk,hcs];simp only [Option.map_some,AO.frz,hm t rfl]
    · have hut:u≠t:=fun e=>hq (by rw [e]);rcases Nat.lt_or_ge u k with hk | hk
      · rw [h1 u hut hk,hu]
      · rw [h2 u hut hk,hu];rfl
    rw [h2 b hbt hkb,hb];simp only [Option.map_some,AO.frz,List.map_append,List.map_cons,(hp t rfl).1,(hp t rfl).2,SV.frz,if_true]
theorem dst_two {o:Nat→Option AO} {e z:Nat} {c:SV} {q:Option Nat} {xs:List D} (h:dstOf o e z c=some (q,xs)):(c=.d .nil∧q=none∧xs=[])∨∃ t,c=.row t∧q=some t∧o t=some (.row e z xs):=by
 unfold dstOf at h;split at h
 ·simp only [Option.some.injEq,Prod.mk.injEq] at h;exact .inl ⟨rfl,h.1.symm,h.2.symm⟩
 ·split at h
  ·split at h
   ·rename_i h1 h2;simp only [Option.some.injEq,Prod.mk.injEq] at h;obtain ⟨rfl,rfl⟩:=h;obtain ⟨rfl,rfl⟩:=h2;exact .inr ⟨_,rfl,rfl,h1⟩
   ·cases h
  ·cases h
 ·cases h
theorem WP.frzC2 {P:Program} {n k0:Nat} {Q:Exit→St→Prop} {c:Code} {sl:Nat→SV} {o:Nat→Option AO} {nk:Nat} (l:List (Nat×SV)) (k:Nat) {b e z e2 z2:Nat} {pre post:List SV} {x y:SV} {q q2:Option Nat} {xs ys:List D} (hb:o b=some (.box (pre++x :: y :: post))) (hx:dstOf o e z x=some (q,xs)) (hy:dstOf o e2 z2 y=some (q2,ys)) (hne:∀ t,q=some t→q2≠some t) (hkb:k≤b)
    (hp:∀ t d,pre.map (SV.frz t d)=pre∧post.map (SV.frz t d)=post) (hl:∀ t d,∀ p∈l,(sl p.1).frz t d=p.2∧p.2.frz t d=p.2) (hl0:∀ p∈l,sl p.1=p.2) (hal:∀ p∈l,al l p.1=p.2)
    (h:∀ o1,o1 b=some (.box (pre ++ .d (.sl z xs) :: .d (.sl z2 ys) :: post))→(∀ u,u < k→q≠some u→q2≠some u→o1 u=o u)→(∀ u cs,u≠b→o u=some (.box cs)→(∀ t d,cs.map (SV.frz t d)=cs)→o1 u=some (.box cs))→WP P n k0 c ⟨al l,o1,nk⟩ Q):WP P n k0 c ⟨sl,o,nk⟩ Q:=by
  have hyf:∀ t d,q=some t→y.frz t d=y:=fun t d ht=>by
    rcases dst_two hy with ⟨rfl,_,_⟩ | ⟨t2,rfl,h2,_⟩
    · rfl
    · simp only [SV.frz];rw [if_neg (fun e=>hne t ht (by rw [h2,e]))]
  refine WP.frzC4 (post:=y :: post) l k hb hx hkb (fun t ht=>⟨(hp t _).1,by simp only [List.map_cons,hyf t _ ht,(hp t _).2]⟩) (fun t _ p hpl=>(hl t _ p hpl).1) (fun _=>hl0) fun o1 h1 h2 h3 h4=>?_;have hy1:dstOf o1 e2 z2 y=some (q2,ys):=by
    rcases dst_two hy with ⟨rfl,rfl,rfl⟩ | ⟨t2,rfl,h5,h6⟩
    · rfl
    · have h7:=h4 t2 _ _ _ (fun e=>hne t2 e h5) h6;simp only [dstOf,h7,and_self,if_true,h5]
  have e:pre++SV.d (.sl z xs) :: y :: post=(pre++[SV.d (.sl z xs)])++y :: post:=by simp
  rw [e] at h1;refine WP.frzC4 (pre:=pre++[.d (.sl z xs)]) (post:=post) l k h1 hy1 hkb (fun t ht=>⟨by simp only [List.map_append,(hp t _).1,List.map_cons,List.map_nil,SV.frz],(hp t _).2⟩) (fun t _ p hpl=>by rw [hal p hpl];exact (hl t _ p hpl).2) (fun _=>hal) fun o2 g1 g2 g3 _=>?_;refine h o2 (by rw [g1];simp) (fun u hu ha hb2=>(g2 u hu hb2).trans (h2 u hu ha)) fun u cs hu hcs hm=>g3 u cs hu (h3 u cs hu hcs fun t _=>hm t _) fun t _=>hm t _
theorem WP.frzS {P:Program} {n k0:Nat} {Q:Exit→St→Prop} {c:Code} {sl:Nat→SV} {o:Nat→Option AO} {nk:Nat} (l:D→List (Nat×SV)) (k:Nat) {e z:Nat} {x:SV} {q:Option Nat} {xs:List D} (hx:dstOf o e z x=some (q,xs))
    (hl:∀ t,q=some t→x=.row t→∀ p∈l (.sl z xs),(sl p.1).frz t (.sl z xs)=p.2) (hl0:x=.d .nil→∀ p∈l .nil,sl p.1=p.2)
    (h:∀ y o1,D.le y (.sl z xs)→(∀ u,u < k→q≠some u→o1 u=o u)→WP P n k0 c ⟨al (l y),o1,nk⟩ Q):WP P n k0 c ⟨sl,o,nk⟩ Q:=by
  rcases dst_two hx with ⟨rfl,rfl,rfl⟩ | ⟨t,rfl,rfl,h2⟩
  · exact WP.le (Le.al (hl0 rfl)) (h .nil o rfl fun _ _ _=>rfl)
  · exact WP.frzL (l (.sl z xs)) k h2 (hl t rfl rfl) fun o1 h1 _=>h _ o1 (D.le_refl _) fun u hu hq=>h1 u (fun e=>hq (by rw [e])) hu
theorem MSpec.ofW {P:Program} {f:FuncId} {n:Nat} {ts:List Nat} {c:Code} {args:Nat→List SV} {cs cs':List SV} {x:D} (hf:FnOk P f n ts c) (hn:∀ k,(args k).length≤n) (hcs:∀ m,SV.lts m cs')
    (h:∀ o nk k,k < nk→o k=some (.box cs)→WP P n nk c ⟨slots (args k),o,nk⟩ (retQ ts fun r' o' nk'=>(∃ x',r'=.d x'∧D.le x' x)∧nk≤nk'∧o' k=some (.box cs')∧∀ t,t < nk∧t≠k→o' t=o t)):MSpec P f args cs cs' (.d x):=
  fun o nk k hM=>Spec.pureM hM hcs (fun _=>trivial) rfl fun hk=>Spec.weak (Q:=fun o' nk'=>nk≤nk'∧o' k=some (.box cs')∧∀ t,t < nk∧t≠k→o' t=o t) (Spec.of_body hf (hn k) (h o nk k hk hM))
theorem retMW_ok {ts:List Nat} {sl:Nat→SV} {o o0:Nat→Option AO} {nk nk0 k:Nat} {x x':D} {cs:List SV} (h1:resOf ts ⟨sl,o,nk⟩=.d x') (hx:D.le x' x) (h3:nk0≤nk) (hk:o k=some (.box cs)) (h4:∀ t,t < nk0∧t≠k→o t=o0 t) :
 retQ ts (fun r o' nk'=>(∃ x',r=.d x'∧D.le x' x)∧nk0≤nk'∧o' k=some (.box cs)∧∀ t,t < nk0∧t≠k→o' t=o0 t) .ret ⟨sl,o,nk⟩:=⟨⟨x',h1,hx⟩,h3,hk,h4⟩
theorem WP.seqI {P:Program} {n k0:Nat} {Q:Exit→St→Prop} {s:St} {ι:Type} (I:ι→St) (A:ι→Prop) {x y:Code} (h:WP P n k0 x s (Qthen (fun s'=>∃ j,A j∧Le k0 s' (I j)) Q)) (k:∀ j,A j→WP P n k0 y (I j) Q):WP P n k0 (.seq x y) s Q:=
 WP.seq fun K hK=>WP.mono h fun e s' hq=>by
  cases e with
  | normal=>obtain ⟨j,hA,hl⟩:=hq;exact hK s' (WP.le hl (k j hA))
  | _=>exact hq
def encB (b:UInt8):D:=.int .u8 (b.toNat:Int)
abbrev SB:=List UInt8×Bool
def srcS (s:SB):List SV:=[.d (.sl 1 (s.1.map encB)),.d (.bool s.2)]
@[simp] theorem srcS_len (s:SB):(srcS s).length=2:=rfl
theorem srcS_lts (m:Nat) (s:SB):SV.lts m (srcS s):=⟨trivial,trivial,trivial⟩
section
variable {P:Program} {Θ:Tab} {K:SV→(Nat→Option AO)→Nat→Prop} {sl:Nat→SV} {o:Nat→Option AO} {nk:Nat} {x:Operand} {t e:Nat}
theorem o_sl_bL {i j:TI} {b:List UInt8} {lo:Operand} {m:Nat} (hx:ev sl x=.d (.sl 1 (b.map encB))) (hlo:ev sl lo=.d (.int .i64 (m:Int))) (hi:Θ t=some i) (hk:i.k=.slice e) (hj:Θ e=some j) (hz:j.sz=1) (hm:m≤b.length) (h:K (.d (.sl 1 ((b.drop m).map encB))) o nk):vOp P Θ (.slice t x (some lo) none none) ⟨sl,o,nk⟩ K:=by
 refine o_sl_sl (m:=b.length) (p:=m) hx hi hk hj hz (by simp [bndO]) ?_ ?_
 ·simp only [Option.map_some,bndO,hlo,bnd];rw [if_pos (by omega)];simp
 ·rw [List.take_of_length_le (by simp),← List.map_drop];exact h
theorem o_sl_bLH {i j:TI} {b:List UInt8} {lo hi2:Operand} {m p:Nat} (hx:ev sl x=.d (.sl 1 (b.map encB))) (hlo:ev sl lo=.d (.int .i64 (m:Int))) (hhi:ev sl hi2=.d (.int .i64 (p:Int))) (hi:Θ t=some i) (hk:i.k=.slice e) (hj:Θ e=some j) (hz:j.sz=1) (hm:m≤p) (hp:p≤b.length) (h:K (.d (.sl 1 (((b.take p).drop m).map encB))) o nk):vOp P Θ (.slice t x (some lo) (some hi2) none) ⟨sl,o,nk⟩ K:=by
 refine o_sl_sl (m:=p) (p:=m) hx hi hk hj hz ?_ ?_ ?_
 ·simp only [Option.map_some,bndO,hhi,bnd,List.length_map];rw [if_pos (by omega)];simp
 ·simp only [Option.map_some,bndO,hlo,bnd];rw [if_pos (by omega)];simp
 ·rw [← List.map_take,← List.map_drop];exact h
end
def rdByte (s:SB):Int×SB:=if s.2=true∨s.1=[] then (0,(s.1,true)) else (((s.1.headD 0).toNat:Int),(s.1.drop 1,false))
theorem rdByte_no {s:SB} (h:s.2=true∨s.1=[]):rdByte s=(0,(s.1,true)):=if_pos h
theorem rdByte_ok {s:SB} (h1:s.2=false) (h2:0 < s.1.length):rdByte s=(((s.1[0]'h2).toNat:Int),(s.1.drop 1,false)):=by
 unfold rdByte;rw [if_neg (fun h=>h.elim (fun h=>by rw [h1] at h;cases h) (fun h=>by rw [h] at h2;cases h2))];obtain ⟨b,bad⟩:=s;cases b with
 | nil=>simp at h2
 | cons a r=>rfl
theorem byte_i64 (c:UInt8):IntKind.i64.wrap (c.toNat:Int)=(c.toNat:Int):=wrap_i64 (by omega) (by have:=c.toNat_lt;omega)
def leftS (s:SB):Nat:=if s.2=true then 0 else s.1.length
def takeS (s:SB) (n:Nat) (right:Bool):Bool×SB:=if s.2=true∨n=0∨right=false then (false,(s.1,true)) else (true,(s.1.drop n,false))
theorem takeS_no {s:SB} {n:Nat} {r:Bool} (h:s.2=true∨n=0∨r=false):takeS s n r=(false,(s.1,true)):=if_pos h
theorem takeS_ok {s:SB} {n:Nat} {r:Bool} (h:¬ (s.2=true∨n=0∨r=false)):takeS s n r=(true,(s.1.drop n,false)):=if_neg h
theorem fn41:FnOk Tryz.prog 41 11 [2] (bodyOf Tryz.f41):=⟨Tryz.f41,Tryz.func41,by kernel_rfl,by decide,by kernel_rfl,by kernel_rfl⟩
theorem s41 {o:Nat→Option AO} {nk k:Nat} (s:SB) (hM:o k=some (.box (srcS s))):Spec Tryz.prog 41 [.loc k 0] o nk (fun r' o' nk'=>r'=.d (.bool s.2)∧o'=o∧nk'=nk):=by
 refine Spec.pure (fun _=>trivial) rfl (Spec.of_body fn41 (by simp) ?_);refine wr (ua (u_nil (wr (uM ?_))));refine u_step (o_pnil rfl rfl th55 rfl hM ?_);refine um ?_;apply gF
 ·rfl
 ·intro hg;refine o_moveV (v:=.loc _ _) rfl ⟨rfl,rfl,rfl⟩
 apply gF
 ·rfl
 ·intro hg;try simp only [hg,ct,Bt]
  refine o_nc rfl hM ⟨rfl,rfl,rfl⟩
 apply gF
 ·rfl
 ·intro hg;try simp only [hg,ct,Bt]
  exact pf th102 th4 hM
 apply gF
 ·rfl
 ·intro hg;try simp only [hg,ct,Bt]
  exact pl th4 hM
 refine uO (ua (u_nil (WP.ret ?_)));refine ret_ok rfl ?_ (by omega) (fun _ _=>rfl);refine congrArg D.bool ?_;simp
theorem fn42:FnOk Tryz.prog 42 10 [2] (bodyOf Tryz.f42):=⟨Tryz.f42,Tryz.func42,by kernel_rfl,by decide,by kernel_rfl,by kernel_rfl⟩
theorem s42 {o:Nat→Option AO} {nk k:Nat} (s:SB) (hM:o k=some (.box (srcS s))):Spec Tryz.prog 42 [.loc k 0] o nk (fun r' o' nk'=>r'=.d (.int .i64 (leftS s:Nat))∧o'=o∧nk'=nk):=by
 refine Spec.pure (fun _=>trivial) rfl (Spec.of_body fn42 (by simp) ?_);refine wr ?_;refine ua ?_;refine u_nil ?_;refine WP.seq fun K2 hK2=>?_;refine wr ?_;refine uM ?_;refine u_step (o_scall (s41 s hM) rfl ?_);refine u_nil ?_;refine wc (fun hc4=>?_) (fun hc4=>?_) <;> try simp only [Q0,Q1,Q2,Q3,Q4,Q5,Q6,Q7,Q8,ge_iff_le,gt_iff_lt] at hc4
 ·
  refine wr (ua (u_nil (WP.ret ?_)));refine ret_ok rfl ?_ (by omega) (fun _ _=>rfl);refine congrArg (D.int .i64) ?_;have hq:=hc4;simp [leftS,hq]
 ·
  refine WP.skip (hK2 _ (wr (uM ?_)));refine u_step (o_nc rfl hM ?_);refine uf th102 th52 hM ?_;refine ul th52 hM ?_;refine un th52 ?_;refine ua (u_nil (WP.ret ?_));refine ret_ok rfl ?_ (by omega) (fun _ _=>rfl);refine congrArg (D.int .i64) ?_;have hq:=hc4;simp [leftS,hq]
theorem fn109:FnOk Tryz.prog 109 7 [] (bodyOf Tryz.f109):=⟨Tryz.f109,Tryz.func109,by kernel_rfl,by decide,by kernel_rfl,by kernel_rfl⟩
theorem s109 (s:SB):MSpec Tryz.prog 109 (fun k=>[.loc k 0]) (srcS s) (srcS (s.1,true)) (.tup []):=by
 refine MSpec.of fn109 (fun _=>by simp) (fun _=>by first | exact srcS_lts _ _ | simp [SV.lts,SV.lt]) (fun _=>by first | trivial | simp [SV.lt,SV.lts]) (by first | rfl | simp [SV.ren,SV.rens]) fun o nk k hkn hM=>?_;refine wr ?_;refine uM ?_;refine u_step (o_pnnil rfl rfl th55 rfl hM ?_);refine u_nil ?_;refine wc (fun hc2=>?_) (fun hc2=>?_) <;> try simp only [Q0,Q1,Q2,Q3,Q4,Q5,Q6,Q7,Q8,ge_iff_le,gt_iff_lt] at hc2
 ·
  refine WP.reg tabOk rfl ?_;refine uM ?_;refine u_step (o_nc rfl hM ?_);refine uf th102 th4 hM ?_;refine u_step0 (g_st rfl rfl rfl th4 rfl hM (by simp) fun o3 hb3 hk3=>?_);refine u_nil ?_;refine endM_ok rfl ?_ (by omega) hb3 (fun t ht=>(hk3 t (by omega)));rfl
 ·
  cases hc2
theorem fn106:FnOk Tryz.prog 106 25 [2] (bodyOf Tryz.f106):=⟨Tryz.f106,Tryz.func106,by kernel_rfl,by decide,by kernel_rfl,by kernel_rfl⟩
theorem s106 (s:SB):MSpec Tryz.prog 106 (fun k=>[.loc k 0]) (srcS s) (srcS (rdByte s).2) (.d (.int .i64 (rdByte s).1)):=by
 refine MSpec.of fn106 (fun _=>by simp) (fun _=>by first | exact srcS_lts _ _ | simp [SV.lts,SV.lt]) (fun _=>by first | trivial | simp [SV.lt,SV.lts]) (by first | rfl | simp [SV.ren,SV.rens]) fun o nk k hkn hM=>?_;refine wr ?_;refine ua ?_;refine u_nil ?_;refine WP.seq fun K2 hK2=>?_;refine wr ?_;refine uM ?_;refine u_step (o_scall (s42 s hM) rfl ?_);refine ub ?_;refine u_nil ?_;refine wc (fun hc4=>?_) (fun hc4=>?_) <;> try simp only [Q0,Q1,Q2,Q3,Q4,Q5,Q6,Q7,Q8,ge_iff_le,gt_iff_lt] at hc4
 ·
  have hz:s.2=true∨s.1=[]:=by
   have hq:=hc4;cases hb:s.2 with
   | true=>exact .inl rfl
   | false=>refine .inr ?_;simp [leftS,hb] at hq;exact hq
  have hr:=rdByte_no hz;refine wr (uM ?_);refine u_step (g_mcall (s109 s) hM rfl fun o6 hb6 hk6=>?_);refine u_nil (wr (ua (u_nil (WP.ret ?_))));refine retM_ok rfl ?_ (by omega) (by rw [hr];exact hb6) (fun t ht=>(hk6 t (by omega)));rw [hr];rfl
 ·
  have hb:s.2=false:=by
   have hq:=hc4;cases hb:s.2 with
   | true=>simp [leftS,hb] at hq
   | false=>rfl
  have hl:0 < s.1.length:=by
   have hq:=hc4;simp [leftS,hb] at hq;exact List.length_pos_iff.2 hq
  have hr:=rdByte_ok hb hl;refine WP.skip (hK2 _ (wr (uM ?_)));refine u_step (o_nc rfl hM ?_);refine uf th102 th52 hM ?_;refine ul th52 hM ?_;refine u_step (o_ia_map rfl (show _=SV.d (.int .i64 ((0:Nat):Int)) from rfl) th52 rfl th5 rfl hl ?_);refine uL th5 ?_;refine ua (u_nil (wr (uM (uM ?_))));refine u_step (o_nc rfl hM ?_);refine uf th102 th52 hM ?_;refine ul th52 hM ?_;refine u_step (o_sl_bL (m:=1) rfl rfl th52 rfl th5 rfl (by omega) ?_);refine u_step (o_nc rfl hM ?_);refine uf th102 th52 hM ?_;refine u_step0 (g_st rfl rfl rfl th52 rfl hM (by simp) fun o10 hb10 hk10=>?_);refine u_nil (wr (um (uc th5 th3 ?_)));refine ua (u_nil (WP.ret ?_));refine retM_ok rfl ?_ (by omega) (by rw [hr];have h:=hb10;simp only [srcS,hb] at h;exact h) (fun t ht=>(hk10 t (by omega)));rw [hr];exact congrArg (fun z=>SV.d (.int .i64 z)) (byte_i64 _)
theorem fn143:FnOk Tryz.prog 143 28 [6] (bodyOf Tryz.f143):=⟨Tryz.f143,Tryz.func143,by kernel_rfl,by decide,by kernel_rfl,by kernel_rfl⟩
theorem s143 (s:SB) (n:Nat) (right:Bool) (hn:s.2=false→n≤s.1.length):MSpec Tryz.prog 143 (fun k=>[.loc k 0,.d (.int .i64 n),.d (.bool right)]) (srcS s) (srcS (takeS s n right).2) (.d (.bool (takeS s n right).1)):=by
 refine MSpec.of fn143 (fun _=>by simp) (fun _=>by first | exact srcS_lts _ _ | simp [SV.lts,SV.lt]) (fun _=>by first | trivial | simp [SV.lt,SV.lts]) (by first | rfl | simp [SV.ren,SV.rens]) fun o nk k hkn hM=>?_;refine wr (ua (u_nil (WP.seq fun K2 hK2=>?_)));refine wr (uM ?_);refine u_step (o_scall (s41 s hM) rfl ?_);refine um ?_;apply gF
 ·rfl
 ·intro hg;exact pm
 apply gF
 ·rfl
 ·intro hg;try simp only [hg,ct,Bt]
  exact pb
 refine uO (um ?_);apply gF
 ·rfl
 ·intro hg;exact pm
 apply gF
 ·rfl
 ·intro hg;try simp only [hg,ct,Bt]
  exact pN
 refine uO ?_;refine u_nil ?_;refine wc (fun hc4=>?_) (fun hc4=>?_) <;> try simp only [Q0,Q1,Q2,Q3,Q4,Q5,Q6,Q7,Q8,ge_iff_le,gt_iff_lt] at hc4
 ·
  have hz:s.2=true∨n=0∨right=false:=by have hq:=hc4;simp at hq;grind
  have hr:=takeS_no hz;refine wr (uM ?_);refine u_step (g_mcall (s109 s) hM rfl fun o6 hb6 hk6=>?_);refine u_nil (wr (ua (u_nil (WP.ret ?_))));refine retM_ok rfl ?_ (by omega) (by rw [hr];exact hb6) (fun t ht=>(hk6 t (by omega)));rw [hr];rfl
 ·
  have hz:¬ (s.2=true∨n=0∨right=false):=by have hq:=hc4;simp at hq;grind
  have hr:=takeS_ok hz;have hb:s.2=false:=by cases hb:s.2 with | true=>exact absurd (.inl hb) hz | false=>rfl
  have hl:=hn hb;refine WP.skip (hK2 _ (wr (uM (uM ?_))));refine u_step (o_nc rfl hM ?_);refine uf th102 th52 hM ?_;refine ul th52 hM ?_;refine um ?_;refine u_step (o_sl_bL (m:=n) rfl rfl th52 rfl th5 rfl hl ?_);refine u_step (o_nc rfl hM ?_);refine uf th102 th52 hM ?_;refine u_step0 (g_st rfl rfl rfl th52 rfl hM (by simp) fun o9 hb9 hk9=>?_);refine u_nil (wr (ua (u_nil (WP.ret ?_))));refine retM_ok rfl ?_ (by omega) (by rw [hr];have h:=hb9;simp only [srcS,hb] at h;exact h) (fun t ht=>(hk9 t (by omega)));rw [hr];rfl
def gR:Nat→List UInt8→Nat→Nat→Option (Nat×Nat)
 | 0,_,_,_=>none
 | f+1,b,i,u=>match b[i]? with
  | none=>none
  | some c=>if (i=9∧1 < c.toNat)∨(0 < i∧c.toNat=0) then none
   else if c.toNat < 128 then some (u+c.toNat % 128 * 2 ^ (7 * i),i+1) else gR f b (i+1) (u+c.toNat % 128 * 2 ^ (7 * i))
def rdG (b:List UInt8):Option (Nat×Nat):=gR 10 b 0 0
def gP (s:SB):Nat×Nat:=if s.2=true then (0,0) else (rdG s.1).getD (0,0)
theorem gR_at {b:List UInt8} {i u:Nat} (hi:i < 10) (hl:i < b.length):gR (10 - i) b i u=if (i=9∧1 < (b[i]'hl).toNat)∨(0 < i∧(b[i]'hl).toNat=0) then none
      else if (b[i]'hl).toNat < 128 then some (u+(b[i]'hl).toNat % 128 * 2 ^ (7 * i),i+1) else gR (10 - (i+1)) b (i+1) (u+(b[i]'hl).toNat % 128 * 2 ^ (7 * i)):=by
  rw [show 10 - i=(10 - (i+1))+1 by omega];simp only [gR,List.getElem?_eq_getElem hl]
theorem gR_end {b:List UInt8} {i u:Nat} (h:b.length≤i∨10≤i):gR (10 - i) b i u=none:=by
 cases hf:10 - i with
 | zero=>rfl
 | succ f=>
  rcases h with h | h
  ·simp only [gR,List.getElem?_eq_none h]
  ·omega
theorem gq_next {u i x:Nat} (hu:u < 2 ^ (7 * i)) (hx:x≤127):u+x * 2 ^ (7 * i) < 2 ^ (7 * (i+1)):=by
 have h1:x * 2 ^ (7 * i)≤127 * 2 ^ (7 * i):=Nat.mul_le_mul_right _ hx;have h2:2 ^ (7 * (i+1))=128 * 2 ^ (7 * i):=by rw [show 7 * (i+1)=7 * i+7 by omega,Nat.pow_add];omega
 omega
theorem g_fits {u i x:Nat} (hu:u < 2 ^ (7 * i)) (hi:i≤9) (hx:x≤127) (h9:i=9→x≤1):u+x * 2 ^ (7 * i) < 18446744073709551616:=by
 by_cases h:i=9
 ·subst h;have:=h9 rfl;have h1:x * 2 ^ (7 * 9)≤1 * 2 ^ (7 * 9):=Nat.mul_le_mul_right _ this;omega
 ·have h1:=gq_next hu hx;have h2:2 ^ (7 * (i+1))≤2 ^ 63:=Nat.pow_le_pow_right (by omega) (by omega);omega
theorem wrap_u64n {n:Nat} (h:n < 18446744073709551616):IntKind.u64.wrap (n:Int)=(n:Int):=by
 simp only [IntKind.wrap,IntKind.bits,IntKind.signed];simp;omega
theorem and127 (c:UInt8):bitsOf .and .u8 (c.toNat:Int) 127=((c.toNat % 128:Nat):Int):=by
 have h:∀ b:BitVec 8,(b &&& 127#8).toNat=b.toNat % 128:=by decide
 have e:bitsOf .and .u8 (c.toNat:Int) 127=IntKind.u8.wrap ((BitVec.ofInt 8 (c.toNat:Int) &&& 127#8).toNat:Int):=rfl;have e2:(BitVec.ofInt 8 (c.toNat:Int)).toNat=c.toNat:=by simp [BitVec.toNat_ofInt]
 rw [e,h,e2];simp only [IntKind.wrap,IntKind.bits,IntKind.signed];simp;omega
theorem shl_step {i x:Nat} (hi:i≤9) (hx:x≤127) (h9:i=9→x≤1):IntKind.u64.wrap (((x:Nat):Int) * 2 ^ min (IntKind.i64.wrap (7 * (i:Int))).toNat (IntKind.bits .u64))=((x * 2 ^ (7 * i):Nat):Int):=by
 have e3:min (IntKind.i64.wrap (7 * (i:Int))).toNat (IntKind.bits .u64)=7 * i:=by
  rw [wrap_i64 (by omega) (by omega)];show min _ 64=_;omega
 have h:=g_fits (u:=0) (i:=i) (x:=x) (Nat.two_pow_pos _) hi hx h9;have e4:((x:Nat):Int) * 2 ^ (7 * i)=((x * 2 ^ (7 * i):Nat):Int):=by simp [Int.natCast_mul,Int.natCast_pow]
 rw [e3,e4,wrap_u64n (by omega)]
theorem ofI64 {m:Nat} (h:m < 18446744073709551616):(BitVec.ofInt 64 (m:Int)).toNat=m:=by simp [BitVec.toNat_ofInt];omega
theorem min10 (n:Nat):SV.d (.int .i64 (if (Builtin.min == Builtin.max)=true then if (n:Int) < 10 then 10 else (n:Int) else if 10 < (n:Int) then 10 else (n:Int)))=SV.d (.int .i64 (min n 10:Nat)):=by
 rw [if_neg (by decide)];refine congrArg (fun z=>SV.d (.int .i64 z)) ?_;split <;> omega
theorem gP_bad {s:SB} (h:s.2=true):gP s=(0,0):=if_pos h
theorem gP_no {s:SB} (h:rdG s.1=none):gP s=(0,0):=by unfold gP;split <;> simp [h]
theorem gP_ok {s:SB} {p:Nat×Nat} (hb:s.2=false) (h:rdG s.1=some p):gP s=p:=by unfold gP;rw [hb,if_neg (by decide),h];rfl
theorem left_pos {s:SB} {i:Nat} (h:i < leftS s):s.2=false∧i < s.1.length:=by
 unfold leftS at h;split at h
 ·omega
 ·rename_i hb;exact ⟨by simpa using hb,h⟩
theorem shG {x:Int} {i:Nat} (hi:i≤9):shBin .shl .u64 x (IntKind.i64.wrap (7 * (i:Int)))=some (.int .u64 (IntKind.u64.wrap (x * 2 ^ min (IntKind.i64.wrap (7 * (i:Int))).toNat (IntKind.bits .u64)))):=by
 simp only [shBin];rw [if_neg (by rw [wrap_i64 (by omega) (by omega)];omega)]
theorem tupG {p q:Nat×Nat} (h:q=p):SV.tup [.d (.int .u64 (p.1:Nat)),.d (.int .i64 (p.2:Nat))]=.tup (([.int .u64 (q.1:Nat),.int .i64 (q.2:Nat)]:List D).map .d):=by rw [h];rfl
def gBad (i c:Nat):Prop:=(i=9∧1 < c)∨(0 < i∧c=0)
instance (i c:Nat):Decidable (gBad i c):=by unfold gBad;infer_instance
theorem gP_end {s:SB} {i u:Nat} (hie:i=min (leftS s) 10) (hg:rdG s.1=gR (10 - i) s.1 i u):gP s=(0,0):=by
 cases hb:s.2 with
 | true=>exact gP_bad hb
 | false=>
  refine gP_no ?_;rw [hg];refine gR_end ?_;simp [leftS,hb] at hie;omega
theorem or_step {u i:Nat} {c:UInt8} (hu:u < 2 ^ (7 * i)) (hi:i≤9) (h9:i=9→c.toNat≤1) :
    bitsOf .or .u64 (u:Int) (IntKind.u64.wrap (IntKind.u64.wrap (bitsOf .and .u8 (c.toNat:Int) 127) * 2 ^ min (IntKind.i64.wrap (7 * (i:Int))).toNat (IntKind.bits .u64)))=((u+c.toNat % 128 * 2 ^ (7 * i):Nat):Int):=by
  have hx:c.toNat % 128≤127:=by omega
  have h9':i=9→c.toNat % 128≤1:=fun h=>by have:=h9 h;omega
  have hf:=g_fits hu hi hx h9';rw [and127,wrap_u64n (by omega),shl_step hi hx h9'];generalize hm:c.toNat % 128=x at *;show IntKind.u64.wrap ((BitVec.ofInt 64 (u:Int) ||| BitVec.ofInt 64 ((x * 2 ^ (7 * i):Nat):Int)).toNat:Int)=_;have t1:(BitVec.ofInt 64 (u:Int)).toNat=u:=ofI64 (by omega);have t2:(BitVec.ofInt 64 ((x * 2 ^ (7 * i):Nat):Int)).toNat=x * 2 ^ (7 * i):=ofI64 (by omega);have e:u ||| x * 2 ^ (7 * i)=u+x * 2 ^ (7 * i):=by
    have:=Nat.two_pow_add_eq_or_of_lt hu x;rw [Nat.or_comm,Nat.mul_comm x,← this];omega
  rw [BitVec.toNat_or,t1,t2,e,wrap_u64n hf]
theorem fn142:FnOk Tryz.prog 142 47 [2,3] (bodyOf Tryz.f142):=⟨Tryz.f142,Tryz.func142,by kernel_rfl,by decide,by kernel_rfl,by kernel_rfl⟩
theorem s142 (s:SB):MSpec Tryz.prog 142 (fun k=>[.loc k 0]) (srcS s) (srcS s) (.tup (([.int .u64 ((gP s).1:Nat),.int .i64 ((gP s).2:Nat)]).map .d)):=by
 refine MSpec.of fn142 (fun _=>by simp) (fun _=>by first | exact srcS_lts _ _ | simp [SV.lts,SV.lt]) (fun _=>by first | trivial | simp [SV.lt,SV.lts]) (by first | rfl | simp [SV.ren,SV.rens]) fun o nk k hkn hM=>?_;refine wr (ua (ua (u_nil (wr (ua (u_nil (WP.seq fun K3 hK3=>?_)))))));refine wr (uM ?_);refine u_step (o_scall (s42 s hM) rfl ?_);refine u_step (o_mm (by decide) rfl ?_);refine um (u_nil (WP.block ?_));refine WP.loopL (ι:=Nat×Nat) (fun ⟨i,u⟩=>⟨al [(0,.loc k 0),(4,.d (.int .u64 (u:Nat))),(9,.d (.int .i64 (min (leftS s) 10:Nat))),(10,.d (.int .i64 i))],o,nk⟩) (fun ⟨i,u⟩=>i≤min (leftS s) 10∧u < 2 ^ (7 * i)∧rdG s.1=gR (10 - i) s.1 i u) (fun ⟨i,u⟩=>min (leftS s) 10 - i) (fun ⟨i,u⟩ hA=>?_) ⟨0,0⟩ ?_ ?_
 ·
  obtain ⟨hle,hu,hg⟩:=hA;refine wr ?_;refine ub ?_;refine u_nil ?_;refine WP.seq fun K6 hK6=>?_;refine wc (fun hc7=>?_) (fun hc7=>?_) <;> try simp only [Q0,Q1,Q2,Q3,Q4,Q5,Q6,Q7,Q8,ge_iff_le,gt_iff_lt] at hc7
  ·
   have hi10:i < min (leftS s) 10:=by have:=hc7;(try simp at this);omega
   have hlp:=left_pos (s:=s) (i:=i) (by omega);have hb:=hlp.1;have hl:=hlp.2;have hga:=gR_at (b:=s.1) (i:=i) (u:=u) (by omega) hl;have hi9:i≤9:=by omega
   refine WP.skip (hK6 _ (WP.seq fun K8 hK8=>?_));refine WP.block (wr (um (ua (u_nil (wr (uM ?_))))));refine u_step (o_nc rfl hM ?_);refine uf th102 th52 hM ?_;refine ul th52 hM ?_;refine um ?_;refine u_step (o_ia_map rfl rfl th52 rfl th5 rfl hl ?_);refine uL th5 ?_;refine ua (u_nil (WP.seq fun K11 hK11=>?_));refine WP.block ?_;refine WP.seqJ ⟨al [(0,.loc k 0),(4,.d (.int .u64 (u:Nat))),(5,.d (.int .i64 i)),(6,.d (.int .u8 ((s.1[i]).toNat:Int))),(9,.d (.int .i64 (min (leftS s) 10:Nat))),(10,.d (.int .i64 i)),(20,.d (.bool (decide (gBad i (s.1[i]).toNat))))],o,nk⟩ ?_ ?_
   ·
    refine wr (um (ub (um ?_)));apply gT
    ·rfl
    ·intro hg;exact pm
    apply gT
    ·rfl
    ·intro hg;try simp only [hg,ct,Bt]
     exact pb
    refine uA ?_;refine ua ?_;refine u_nil ?_;refine wc (fun hc13=>?_) (fun hc13=>?_) <;> try simp only [Q0,Q1,Q2,Q3,Q4,Q5,Q6,Q7,Q8,ge_iff_le,gt_iff_lt] at hc13
    ·
     refine WP.skip ?_;refine Le.al ?_;simp only [List.forall_mem_cons];have hl2:=hc13;refine ⟨rfl,rfl,rfl,rfl,rfl,rfl,?_,by simp⟩;refine congrArg (fun z=>SV.d (.bool z)) ?_;generalize (s.1[i]).toNat=c at hl2 ⊢;rw [Bool.eq_iff_iff,decide_eq_true_iff];unfold gBad;simp at hl2 ⊢;omega
    ·
     try have hbad:¬ gBad i (s.1[i]).toNat:=hc13
     refine WP.reg tabOk rfl ?_;refine um (ub (um ?_));apply gT
     ·rfl
     ·intro hg;exact pm
     apply gT
     ·rfl
     ·intro hg;try simp only [hg,ct,Bt]
      exact pb
     refine uA (ua (u_nil ?_));refine Le.al ?_;simp only [List.forall_mem_cons];have hl2:=hc13;refine ⟨rfl,rfl,rfl,rfl,rfl,rfl,?_,by simp⟩;refine congrArg (fun z=>SV.d (.bool z)) ?_;generalize (s.1[i]).toNat=c at hl2 ⊢;rw [Bool.eq_iff_iff,decide_eq_true_iff];unfold gBad;simp at hl2 ⊢;omega
   ·
    refine wc (fun hc14=>?_) (fun hc14=>?_) <;> try simp only [Q0,Q1,Q2,Q3,Q4,Q5,Q6,Q7,Q8,ge_iff_le,gt_iff_lt] at hc14
    ·
     refine wr (ua (ua (u_nil (WP.ret ?_))));refine retM_ok rfl ?_ (by omega) hM (fun _ _=>rfl);exact tupG (gP_no (hg.trans (hga.trans (if_pos hc14))))
    ·
     try have hbad:¬ gBad i (s.1[i]).toNat:=hc14
     refine WP.skip ?_;refine hK11 _ ?_;refine wr ?_;refine um ?_;refine um ?_;refine ub ?_;refine uc th5 th126 ?_;refine um ?_;refine ub ?_;refine u_step (o_bin_sh rfl rfl (shG hi9) ?_);refine ub ?_;refine ua ?_;refine u_nil ?_;refine wr ?_;refine um ?_;refine ub ?_;refine u_nil ?_;refine wc (fun hc18=>?_) (fun hc18=>?_) <;> try simp only [Q0,Q1,Q2,Q3,Q4,Q5,Q6,Q7,Q8,ge_iff_le,gt_iff_lt] at hc18
     ·
      have h128:(s.1[i]).toNat < 128:=by have hq:=hc18;(try simp at hq);omega
      have hgp:=gP_ok hb (hg.trans (hga.trans ((if_neg hbad).trans (if_pos h128))));refine wr (um (um (ub (ua (ua (u_nil (WP.ret ?_)))))));refine retM_ok rfl ?_ (by omega) hM (fun _ _=>rfl);rw [or_step hu hi9 (fun h=>by unfold gBad at hbad;omega),wrap_succ (by omega)];exact tupG hgp
     ·
      have h128:¬ (s.1[i]).toNat < 128:=by have hq:=hc18;(try simp at hq);omega
      have hgn:=hga.trans ((if_neg hbad).trans (if_neg h128));refine WP.skip (hK8 _ (WP.reg tabOk rfl ?_));refine ub (um (u_nil ?_));refine ⟨⟨i+1,u+(s.1[i]).toNat % 128 * 2 ^ (7 * i)⟩,⟨by omega,gq_next hu (by omega),hg.trans hgn⟩,by simp only;omega,?_⟩;refine Le.al ?_;simp only [List.forall_mem_cons];refine ⟨rfl,?_,rfl,cnt (by omega),by simp⟩;exact congrArg (fun z=>SV.d (.int .u64 z)) (or_step hu hi9 (fun h=>by unfold gBad at hbad;omega))
  ·
   have hie:i=min (leftS s) 10:=by have:=hc7;(try simp at this);omega
   have hgp:=gP_end hie hg;refine WP.exit ?_;refine hK3 _ (wr (ua (ua (u_nil (WP.ret ?_)))));refine retM_ok rfl ?_ (by omega) hM (fun _ _=>rfl);exact tupG hgp
 ·
  exact ⟨by omega,by simp,rfl⟩
 ·
  refine Le.al ?_;simp only [List.forall_mem_cons];exact ⟨rfl,rfl,min10 _,rfl,by simp⟩
theorem gR_len:∀ (f:Nat) (b:List UInt8) (i u v n:Nat),gR f b i u=some (v,n)→n≤b.length∧i < n∧n≤i+f
 | 0,b,i,u,v,n,h=>by simp [gR] at h
 | f+1,b,i,u,v,n,h=>by
  simp only [gR] at h;split at h
  ·cases h
  ·rename_i c hc;have hl:=(List.getElem?_eq_some_iff.1 hc).1;split at h
   ·cases h
   ·split at h
    ·simp only [Option.some.injEq,Prod.mk.injEq] at h;omega
    ·have:=gR_len f b (i+1) _ v n h;omega
theorem gR_val:∀ (f:Nat) (b:List UInt8) (i u v n:Nat),i+f≤10→u < 2 ^ (7 * i)→gR f b i u=some (v,n)→v < 18446744073709551616
 | 0,b,i,u,v,n,_,_,h=>by simp [gR] at h
 | f+1,b,i,u,v,n,hi,hu,h=>by
  simp only [gR] at h;split at h
  ·cases h
  ·rename_i c hc;split at h
   ·cases h
   ·rename_i hn;split at h
    ·simp only [Option.some.injEq,Prod.mk.injEq] at h;obtain ⟨rfl,_⟩:=h;exact g_fits hu (by omega) (by omega) (fun e=>by omega)
    ·exact gR_val f b (i+1) _ v n (by omega) (gq_next hu (by omega)) h
theorem gP_len (s:SB):(s.2=false→(gP s).2≤s.1.length)∧(gP s).1 < 18446744073709551616∧(gP s).2≤10:=by
 unfold gP;split
 ·exact ⟨fun _=>Nat.zero_le _,by simp⟩
 ·cases h:rdG s.1 with
  | none=>simp
  | some p=>
   have h1:=gR_len 10 s.1 0 0 p.1 p.2 h;have h2:=gR_val 10 s.1 0 0 p.1 p.2 (by omega) (by simp) h;simp only [Option.getD_some];omega
def rightS (u:Nat) (most:Int):Bool:=decide ((u:Int)≤4611686018427387904) && decide (IntKind.i64.wrap (u:Int)≤most)
def cntS (s:SB) (most:Int):Int×SB:=(if (takeS s (gP s).2 (rightS (gP s).1 most)).1=true then IntKind.i64.wrap ((gP s).1:Int) else 0,(takeS s (gP s).2 (rightS (gP s).1 most)).2)
def zagI (u:Nat):Int:=if u % 2=0 then ((u / 2:Nat):Int) else -((u / 2:Nat):Int) - 1
def intS (s:SB):Int×SB:=(if (takeS s (gP s).2 true).1=true then zagI (gP s).1 else 0,(takeS s (gP s).2 true).2)
theorem cntS_yes {s:SB} {most:Int} (h:(takeS s (gP s).2 (rightS (gP s).1 most)).1=true):(cntS s most).1=IntKind.i64.wrap ((gP s).1:Int):=if_pos h
theorem cntS_no {s:SB} {most:Int} (h:(takeS s (gP s).2 (rightS (gP s).1 most)).1=false):(cntS s most).1=0:=if_neg (by rw [h];decide)
theorem intS_yes {s:SB} (h:(takeS s (gP s).2 true).1=true):(intS s).1=zagI (gP s).1:=if_pos h
theorem intS_no {s:SB} (h:(takeS s (gP s).2 true).1=false):(intS s).1=0:=if_neg (by rw [h];decide)
theorem and1_64 {u:Nat} (h:u < 18446744073709551616):bitsOf .and .u64 (u:Int) 1=((u % 2:Nat):Int):=by
 show IntKind.u64.wrap ((BitVec.ofInt 64 (u:Int) &&& BitVec.ofInt 64 1).toNat:Int)=_;have e2:(BitVec.ofInt 64 (1:Int)).toNat=1:=by decide
 rw [BitVec.toNat_and,ofI64 h,e2,Nat.and_one_is_mod,wrap_u64n (by omega)]
theorem xor0 (m:Int) (h1:0≤m) (h2:m < 9223372036854775808):bitsOf .xor .i64 m 0=m:=by
 obtain ⟨n,rfl⟩:∃ n:Nat,m=n:=⟨m.toNat,by omega⟩;show IntKind.i64.wrap ((BitVec.ofInt 64 (n:Int) ^^^ BitVec.ofInt 64 0).toNat:Int)=_;have e2:(BitVec.ofInt 64 (0:Int)).toNat=0:=by decide
 rw [BitVec.toNat_xor,ofI64 (by omega),e2,Nat.xor_zero,wrap_i64 (by omega) (by omega)]
theorem xor1 (m:Int) (h1:0≤m) (h2:m < 9223372036854775808):bitsOf .xor .i64 m (-1)=-m - 1:=by
 obtain ⟨n,rfl⟩:∃ n:Nat,m=n:=⟨m.toNat,by omega⟩;show IntKind.i64.wrap ((BitVec.ofInt 64 (n:Int) ^^^ BitVec.ofInt 64 (-1)).toNat:Int)=_;have e1:BitVec.ofInt 64 (-1)=BitVec.allOnes 64:=by decide
 have e3:(BitVec.ofInt 64 (n:Int) ^^^ BitVec.allOnes 64).toNat=2 ^ 64 - 1 - n:=by
  rw [BitVec.xor_allOnes,BitVec.toNat_not,ofI64 (by omega)]
 rw [e1,e3];simp only [IntKind.wrap,IntKind.bits,IntKind.signed];simp;omega
theorem zag_ok {u:Nat} (h:u < 18446744073709551616):bitsOf .xor .i64 (IntKind.i64.wrap ((u:Int).fdiv (2 ^ min (Int.toNat 1) (IntKind.bits .u64)))) (IntKind.i64.wrap (0 - IntKind.i64.wrap (bitsOf .and .u64 (u:Int) 1)))=zagI u:=by
 have e1:(u:Int).fdiv (2 ^ min (Int.toNat 1) (IntKind.bits .u64))=((u / 2:Nat):Int):=by
  show (u:Int).fdiv 2=_;rw [Int.fdiv_eq_ediv_of_nonneg _ (by omega)];omega
 rw [e1,and1_64 h,wrap_i64 (m:=((u / 2:Nat):Int)) (by omega) (by omega),wrap_i64 (m:=((u % 2:Nat):Int)) (by omega) (by omega)];unfold zagI;by_cases h2:u % 2=0
 ·rw [if_pos h2,h2];exact xor0 _ (by omega) (by omega)
 ·rw [if_neg h2,show u % 2=1 by omega];exact xor1 _ (by omega) (by omega)
def txtBad (s:SB) (most:Int):Bool:=decide (4611686018427387904 < ((gP s).1:Int)) || decide (most < IntKind.i64.wrap ((gP s).1:Int)) || decide (IntKind.i64.wrap ((leftS s:Int) - ((gP s).2:Int)) < IntKind.i64.wrap ((gP s).1:Int)) || (((gP s).2:Int) == 0)
def txtS (s:SB) (most:Int):Str×SB:=if txtBad s most=true then ([],(s.1,true)) else ((s.1.take ((gP s).2+(gP s).1)).drop (gP s).2,(s.1.drop ((gP s).2+(gP s).1),false))
theorem txtS_no {s:SB} {most:Int} (h:txtBad s most=true):txtS s most=([],(s.1,true)):=if_pos h
theorem txtS_ok {s:SB} {most:Int} (h:txtBad s most=false):txtS s most=((s.1.take ((gP s).2+(gP s).1)).drop (gP s).2,(s.1.drop ((gP s).2+(gP s).1),false)):=if_neg (by rw [h];decide)
theorem txt_fits {s:SB} {most:Int} (hx:s.1.length≤9223372036854775807) (h:txtBad s most=false):s.2=false∧(gP s).2+(gP s).1≤s.1.length∧(gP s).1≤4611686018427387904:=by
 have hl:=gP_len s;simp only [txtBad,Bool.or_eq_false_iff,decide_eq_false_iff_not,beq_eq_false_iff_ne,ne_eq] at h;obtain ⟨⟨⟨h1,h2⟩,h3⟩,h4⟩:=h;have hb:s.2=false:=by
  cases hb:s.2 with
  | false=>rfl
  | true=>rw [gP_bad hb] at h4;simp at h4
 have hls:leftS s=s.1.length:=by simp [leftS,hb]
 have hl1:=hl.1 hb;rw [hls,wrap_i64 (by omega) (by omega),wrap_i64 (by omega) (by omega)] at h3;exact ⟨hb,by omega,by omega⟩
theorem fn92:FnOk Tryz.prog 92 26 [4] (bodyOf Tryz.f92):=⟨Tryz.f92,Tryz.func92,by kernel_rfl,by decide,by kernel_rfl,by kernel_rfl⟩
theorem s92 (s:SB) (most:Int):MSpec Tryz.prog 92 (fun k=>[.loc k 0,.d (.int .i64 most)]) (srcS s) (srcS (cntS s most).2) (.d (.int .i64 (cntS s most).1)):=by
 refine MSpec.of fn92 (fun _=>by simp) (fun _=>by first | exact srcS_lts _ _ | simp [SV.lts,SV.lt]) (fun _=>by first | trivial | simp [SV.lt,SV.lts]) (by first | rfl | simp [SV.ren,SV.rens]) fun o nk k hkn hM=>?_;refine wr (ua (u_nil (wr (uM ?_))));refine u_step (g_mcall (s142 s) hM rfl fun o3 hb3 hk3=>?_);refine u_step (o_moveV (v:=.tup _) rfl ?_);refine ue (ue (ua (ua (u_nil (WP.seq fun K4 hK4=>?_)))));refine wr (uM (um (um (ub (um ?_)))));apply gT
 ·rfl
 ·intro hg;exact pm
 apply gT
 ·rfl
 ·intro hg;try simp only [hg,ct,Bt]
  exact pc th126 th3
 apply gT
 ·rfl
 ·intro hg;exact pm
 apply gT
 ·rfl
 ·intro hg;try simp only [hg,ct,Bt]
  exact pb
 refine uA ?_;refine u_step (g_mcall (s143 s (gP s).2 (rightS (gP s).1 most) (gP_len s).1) hb3 rfl fun o6 hb6 hk6=>?_);refine uN ?_;refine u_nil ?_;refine wc (fun hc7=>?_) (fun hc7=>?_) <;> try simp only [Q0,Q1,Q2,Q3,Q4,Q5,Q6,Q7,Q8,ge_iff_le,gt_iff_lt] at hc7
 ·
  have ht:=hc7
  try simp only [Bool.not_eq_true'] at ht
  refine wr (ua (u_nil (WP.ret ?_)));refine retM_ok rfl ?_ (by omega) hb6 (fun t ht=>(hk6 t (by omega)).trans ((hk3 t (by omega))));rw [cntS_no ht];rfl
 ·
  have ht:=hc7
  try simp only [Bool.not_eq_false'] at ht
  refine WP.skip (hK4 _ (wr (um (uc th126 th3 ?_))));refine ua (u_nil (WP.ret ?_));refine retM_ok rfl ?_ (by omega) hb6 (fun t ht=>(hk6 t (by omega)).trans ((hk3 t (by omega))));rw [cntS_yes ht];rfl
theorem fn179:FnOk Tryz.prog 179 22 [2] (bodyOf Tryz.f179):=⟨Tryz.f179,Tryz.func179,by kernel_rfl,by decide,by kernel_rfl,by kernel_rfl⟩
theorem s179 (s:SB):MSpec Tryz.prog 179 (fun k=>[.loc k 0]) (srcS s) (srcS (intS s).2) (.d (.int .i64 (intS s).1)):=by
 refine MSpec.of fn179 (fun _=>by simp) (fun _=>by first | exact srcS_lts _ _ | simp [SV.lts,SV.lt]) (fun _=>by first | trivial | simp [SV.lt,SV.lts]) (by first | rfl | simp [SV.ren,SV.rens]) fun o nk k hkn hM=>?_;refine wr ?_;refine ua ?_;refine u_nil ?_;refine wr ?_;refine uM ?_;refine u_step (g_mcall (s142 s) hM rfl fun o3 hb3 hk3=>?_);refine u_step (o_moveV (v:=.tup _) rfl ?_);refine ue ?_;refine ue ?_;refine ua ?_;refine ua ?_;refine u_nil ?_;refine WP.seq fun K4 hK4=>?_;refine wr ?_;refine uM ?_;refine um ?_;refine u_step (g_mcall (s143 s (gP s).2 true (gP_len s).1) hb3 rfl fun o6 hb6 hk6=>?_);refine uN ?_;refine u_nil ?_;refine wc (fun hc7=>?_) (fun hc7=>?_) <;> try simp only [Q0,Q1,Q2,Q3,Q4,Q5,Q6,Q7,Q8,ge_iff_le,gt_iff_lt] at hc7
 ·
  have ht:=hc7
  try simp only [Bool.not_eq_true'] at ht
  refine wr (ua (u_nil (WP.ret ?_)));refine retM_ok rfl ?_ (by omega) hb6 (fun t ht=>(hk6 t (by omega)).trans ((hk3 t (by omega))));rw [intS_no ht];rfl
 ·
  have ht:=hc7
  try simp only [Bool.not_eq_false'] at ht
  refine WP.skip (hK4 _ (wr (um ?_)));refine u_step (o_bin_sh rfl rfl rfl ?_);refine uc th126 th3 ?_;refine um (ub (uc th126 th3 ?_));refine u_step (o_un rfl rfl ?_);refine ub (ua (u_nil (WP.ret ?_)));refine retM_ok rfl ?_ (by omega) hb6 (fun t ht=>(hk6 t (by omega)).trans ((hk3 t (by omega))));rw [intS_yes ht];exact congrArg (fun z=>SV.d (.int .i64 z)) (zag_ok (gP_len s).2.1)
theorem o_cv_sb {P:Program} {Θ:Tab} {K:SV→(Nat→Option AO)→Nat→Prop} {sl:Nat→SV} {o:Nat→Option AO} {nk e:Nat} {x:Operand} {i j je:TI} {src dst:Nat} {b:List UInt8} (hx:ev sl x=.d (.sl 1 (b.map encB))) (hi:Θ src=some i) (hik:i.k=.slice e) (he:Θ e=some je) (hek:je.k=.int .u8) (hj:Θ dst=some j) (hk:j.k=.str) (h:K (.d (.str b)) o nk):vOp P Θ (.convert src dst x) ⟨sl,o,nk⟩ K:=by
 refine Or.inl ?_;show coOp Θ o src dst (ev sl x) (fun v=>K v o nk);rw [hx];refine ⟨i,j,hi,hj,hk,⟨e,je,hik,he,hek⟩,b.map encB,b,by simp [srcOf],?_,h⟩;exact byteL_bytesD b
theorem tx_end {n u:Nat} (h1:u≤4611686018427387904) (h2:n≤10):IntKind.i64.wrap ((n:Int)+IntKind.i64.wrap (u:Int))=((n+u:Nat):Int):=by
 rw [wrap_i64 (m:=(u:Int)) (by omega) (by omega),wrap_i64 (by omega) (by omega)];omega
def doneS (s:SB):Int:=if s.2=true∨0 < s.1.length then 10 else 0
theorem fn107:FnOk Tryz.prog 107 59 [4] (bodyOf Tryz.f107):=⟨Tryz.f107,Tryz.func107,by kernel_rfl,by decide,by kernel_rfl,by kernel_rfl⟩
theorem s107 (s:SB) (most:Int) (hx:s.1.length≤9223372036854775807):MSpec Tryz.prog 107 (fun k=>[.loc k 0,.d (.int .i64 most)]) (srcS s) (srcS (txtS s most).2) (.d (.str (txtS s most).1)):=by
 refine MSpec.of fn107 (fun _=>by simp) (fun _=>by first | exact srcS_lts _ _ | simp [SV.lts,SV.lt]) (fun _=>by first | trivial | simp [SV.lt,SV.lts]) (by first | rfl | simp [SV.ren,SV.rens]) fun o nk k hkn hM=>?_;refine wr ?_;refine u_step (o_assign (show _=SV.d (.str []) from rfl) ?_);refine u_nil (wr (uM ?_));refine u_step (g_mcall (s142 s) hM rfl fun o3 hb3 hk3=>?_);refine u_step (o_moveV (v:=.tup _) rfl ?_);refine ue (ue (ua (ua (u_nil (WP.seq fun K4 hK4=>?_)))));refine wr (um (ub (um ?_)));apply gF
 ·rfl
 ·intro hg;exact pm
 apply gF
 ·rfl
 ·intro hg;try simp only [hg,ct,Bt]
  exact pc th126 th3
 apply gF
 ·rfl
 ·intro hg;exact pm
 apply gF
 ·rfl
 ·intro hg;try simp only [hg,ct,Bt]
  exact pb
 refine uO (um ?_);apply gF
 ·rfl
 ·intro hg;exact pm
 apply gF
 ·rfl
 ·intro hg;try simp only [hg,ct,Bt]
  exact pc th126 th3
 apply gF
 ·rfl
 ·intro hg;refine o_moveV (v:=.loc _ _) rfl ⟨rfl,rfl,rfl⟩
 apply gF
 ·rfl
 ·intro hg;try simp only [hg,ct,Bt]
  refine o_scall (s42 s hb3) rfl ⟨rfl,rfl,rfl⟩
 apply gF
 ·rfl
 ·intro hg;exact pm
 apply gF
 ·rfl
 ·intro hg;try simp only [hg,ct,Bt]
  exact pb
 apply gF
 ·rfl
 ·intro hg;try simp only [hg,ct,Bt]
  exact pb
 refine uO (um ?_);apply gF
 ·rfl
 ·intro hg;exact pm
 apply gF
 ·rfl
 ·intro hg;try simp only [hg,ct,Bt]
  exact pb
 refine uO ?_;refine u_nil ?_;refine wc (fun hc6=>?_) (fun hc6=>?_) <;> try simp only [Q0,Q1,Q2,Q3,Q4,Q5,Q6,Q7,Q8,ge_iff_le,gt_iff_lt] at hc6
 ·
  have hz:txtBad s most=true:=hc6;have hr:=txtS_no hz;refine wr (uM ?_);refine u_step (g_mcall (s109 s) hb3 rfl fun o8 hb8 hk8=>?_);refine u_nil (wr ?_);refine u_step (o_assign (show _=SV.d (.str []) from rfl) ?_);refine u_nil (WP.ret ?_);refine retM_ok rfl ?_ (by omega) (by rw [hr];exact hb8) (fun t ht=>(hk8 t (by omega)).trans ((hk3 t (by omega))));rw [hr];rfl
 ·
  have hz:txtBad s most=false:=by have hq:=hc6;exact (by simpa [txtBad] using hq)
  have hr:=txtS_ok hz;have hfit:=txt_fits hx hz;have hb:=hfit.1;have hend:=congrArg (fun z=>SV.d (.int .i64 z)) (tx_end (n:=(gP s).2) hfit.2.2 (gP_len s).2.2);refine WP.skip (hK4 _ (wr (um (um (uc th126 th3 ?_)))));refine ub (ua (u_nil (wr (uM ?_))));refine u_step (o_nc rfl hb3 ?_);refine uf th102 th52 hb3 ?_;refine ul th52 hb3 ?_;refine um (um ?_);refine u_step (o_sl_bLH (m:=(gP s).2) (p:=(gP s).2+(gP s).1) rfl rfl hend th52 rfl th5 rfl (by omega) hfit.2.1 ?_);refine u_step (o_cv_sb rfl th52 rfl th5 rfl th9 rfl ?_);refine ua (u_nil (wr (uM (uM ?_))));refine u_step (o_nc rfl hb3 ?_);refine uf th102 th52 hb3 ?_;refine ul th52 hb3 ?_;refine um ?_;refine u_step (o_sl_bL (m:=(gP s).2+(gP s).1) rfl hend th52 rfl th5 rfl hfit.2.1 ?_);refine u_step (o_nc rfl hb3 ?_);refine uf th102 th52 hb3 ?_;refine u_step0 (g_st rfl rfl rfl th52 rfl hb3 (by simp) fun o13 hb13 hk13=>?_);refine u_nil (wr (um (ua (u_nil (WP.ret ?_)))));refine retM_ok rfl ?_ (by omega) (by rw [hr];have h:=hb13;simp only [srcS,hb] at h;exact h) (fun t ht=>(hk13 t (by omega)).trans ((hk3 t (by omega))));rw [hr];rfl
theorem fn39:FnOk Tryz.prog 39 13 [2] (bodyOf Tryz.f39):=⟨Tryz.f39,Tryz.func39,by kernel_rfl,by decide,by kernel_rfl,by kernel_rfl⟩
theorem s39 {o:Nat→Option AO} {nk k:Nat} (s:SB) (hM:o k=some (.box (srcS s))):Spec Tryz.prog 39 [.loc k 0] o nk (fun r' o' nk'=>r'=.d (.int .i64 (doneS s))∧o'=o∧nk'=nk):=by
 refine Spec.pure (fun _=>trivial) rfl (Spec.of_body fn39 (by simp) ?_);refine wr (ua (u_nil (WP.seq fun K2 hK2=>?_)));refine wr (uM ?_);refine u_step (o_scall (s41 s hM) rfl ?_);refine um ?_;apply gF
 ·rfl
 ·intro hg;refine o_moveV (v:=.loc _ _) rfl ⟨rfl,rfl,rfl⟩
 apply gF
 ·rfl
 ·intro hg;try simp only [hg,ct,Bt]
  refine o_nc rfl hM ⟨rfl,rfl,rfl⟩
 apply gF
 ·rfl
 ·intro hg;try simp only [hg,ct,Bt]
  exact pf th102 th52 hM
 apply gF
 ·rfl
 ·intro hg;try simp only [hg,ct,Bt]
  exact pl th52 hM
 apply gF
 ·rfl
 ·intro hg;try simp only [hg,ct,Bt]
  exact pn th52
 apply gF
 ·rfl
 ·intro hg;try simp only [hg,ct,Bt]
  exact pb
 refine uO ?_;refine u_nil ?_;refine wc (fun hc4=>?_) (fun hc4=>?_) <;> try simp only [Q0,Q1,Q2,Q3,Q4,Q5,Q6,Q7,Q8,ge_iff_le,gt_iff_lt] at hc4
 ·
  refine wr (ua (u_nil (WP.ret ?_)));refine ret_ok rfl ?_ (by omega) (fun _ _=>rfl);refine congrArg (D.int .i64) ?_;have hq:=hc4;simp at hq;exact (if_pos hq).symm
 ·
  refine WP.skip (hK2 _ (wr (ua (u_nil (WP.ret ?_)))));refine ret_ok rfl ?_ (by omega) (fun _ _=>rfl);refine congrArg (D.int .i64) ?_;have hq:=hc4;simp at hq;exact (if_neg (by simpa using hq)).symm
def rdIs (rd:SB→Val×SB) (doc:Bool):Nat→SB→List Val→List Str→List Val×List Str×SB
 | 0,s,xs,ns=>(xs,ns,s)
 | n+1,s,xs,ns=>if s.2=true then (xs,ns,s) else
  rdIs rd doc n (rd (if doc=true then (txtS s 32).2 else s)).2 (xs++[(rd (if doc=true then (txtS s 32).2 else s)).1]) (if doc=true then ns++[(txtS s 32).1] else ns)
def rdV:Nat→SB→Val×SB
 | 0,s=>(.mk (rdByte s).1 0 [] [] [],((rdByte s).2.1,true))
 | d+1,s=>
  if (rdByte s).1=1 then (.mk (rdByte s).1 0 [] [] [],(rdByte s).2)
  else if (rdByte s).1=2 then (.mk (rdByte s).1 (rdByte (rdByte s).2).1 [] [] [],(rdByte (rdByte s).2).2)
  else if (rdByte s).1=3 then (.mk (rdByte s).1 (intS (rdByte s).2).1 [] [] [],(intS (rdByte s).2).2)
  else if (rdByte s).1=4∨(rdByte s).1=5 then (.mk (rdByte s).1 0 (txtS (rdByte s).2 4096).1 [] [],(txtS (rdByte s).2 4096).2)
  else if (rdByte s).1=6∨(rdByte s).1=7 then
   (.mk (rdByte s).1 0 [] (rdIs (rdV d) (decide ((rdByte s).1=7)) (cntS (rdByte s).2 4096).1.toNat (cntS (rdByte s).2 4096).2 [] []).1 (rdIs (rdV d) (decide ((rdByte s).1=7)) (cntS (rdByte s).2 4096).1.toNat (cntS (rdByte s).2 4096).2 [] []).2.1,
    (rdIs (rdV d) (decide ((rdByte s).1=7)) (cntS (rdByte s).2 4096).1.toNat (cntS (rdByte s).2 4096).2 [] []).2.2)
  else (.mk (rdByte s).1 0 [] [] [],((rdByte s).2.1,true))
theorem byte_le (s:SB):(rdByte s).2.1.length≤s.1.length:=by unfold rdByte;split <;> simp
theorem take_le (s:SB) (n:Nat) (r:Bool):(takeS s n r).2.1.length≤s.1.length:=by unfold takeS;split <;> simp
theorem cnt_le (s:SB) (m:Int):(cntS s m).2.1.length≤s.1.length:=take_le _ _ _
theorem int_le (s:SB):(intS s).2.1.length≤s.1.length:=take_le _ _ _
theorem txt_le (s:SB) (m:Int):(txtS s m).2.1.length≤s.1.length:=by unfold txtS;split <;> simp
theorem rdIs_le {rd:SB→Val×SB} (hrd:∀ s,(rd s).2.1.length≤s.1.length) (doc:Bool):∀ (n:Nat) (s:SB) (xs:List Val) (ns:List Str),(rdIs rd doc n s xs ns).2.2.1.length≤s.1.length
 | 0,s,xs,ns=>Nat.le_refl _
 | n+1,s,xs,ns=>by
  simp only [rdIs];split
  ·exact Nat.le_refl _
  ·refine Nat.le_trans (rdIs_le hrd doc n _ _ _) (Nat.le_trans (hrd _) ?_);split
   ·exact txt_le _ _
   ·exact Nat.le_refl _
theorem rdV_le:∀ (d:Nat) (s:SB),(rdV d s).2.1.length≤s.1.length
 | 0,s=>byte_le s
 | d+1,s=>by
  have hb:=byte_le s;simp only [rdV]
  repeat' split
  ·exact hb
  ·exact Nat.le_trans (byte_le _) hb
  ·exact Nat.le_trans (int_le _) hb
  ·exact Nat.le_trans (txt_le _ _) hb
  ·exact Nat.le_trans (rdIs_le (rdV_le d) _ _ _ _ _) (Nat.le_trans (cnt_le _ _) hb)
  ·exact hb
theorem leV0 (k i:Int) (t:Str):D.le (.agg [.int .i64 k,.int .i64 i,.str t,.nil,.nil]) (encV (.mk k i t [] [])):=by simp [encV,D.le,D.les,encVs]
theorem fn151:FnOkC Tryz.prog 151 45 [.cell 4 27] (bodyOf Tryz.f151):=⟨Tryz.f151,Tryz.func151,by kernel_rfl,by decide,by kernel_rfl,by kernel_rfl⟩
theorem s151 (d:Nat) (hdb:d≤8) (s:SB) (hx:s.1.length≤4611686018427387904) (hit:∀ e,d=e+1→∀ (kd:Int) (s:SB),s.1.length≤4611686018427387904→MSpec Tryz.prog 180 (fun k=>[.loc k 0,.d (.agg [.int .i64 kd,.int .i64 0,.str [],.nil,.nil]),.d (.int .i64 e)]) (srcS s) (srcS (rdIs (rdV e) (decide (kd=7)) (cntS s 4096).1.toNat (cntS s 4096).2 [] []).2.2) (.d (encV (.mk kd 0 [] (rdIs (rdV e) (decide (kd=7)) (cntS s 4096).1.toNat (cntS s 4096).2 [] []).1 (rdIs (rdV e) (decide (kd=7)) (cntS s 4096).1.toNat (cntS s 4096).2 [] []).2.1)))):MSpec Tryz.prog 151 (fun k=>[.loc k 0,.d (.int .i64 d)]) (srcS s) (srcS (rdV d s).2) (.d (encV (rdV d s).1)):=by
 have hb1:=byte_le s;refine MSpec.ofC tabOk fn151 (fun _=>by simp) (fun _=>by first | exact srcS_lts _ _ | simp [SV.lts,SV.lt]) fun o nk k hkn hM=>?_;refine wr ?_;refine u_step (g_alloc th27 rfl fun o2 hb2 hk2=>?_);have hM_2:=(hk2 _ (by omega)).trans hM;refine u_nil ?_;refine wr ?_;refine uM ?_;refine u_step (g_mcall (s106 s) hM_2 rfl fun o4 hb4 hk4=>?_);have hb2_4:=(hk4 _ (by omega)).trans hb2;refine u_step (o_bu rfl th27 rfl rfl ?_);refine u_step (g_alloc th27 rfl fun o5 hb5 hk5=>?_);have hb2_5:=(hk5 _ (by omega)).trans hb2_4;have hb4_5:=(hk5 _ (by omega)).trans hb4;refine u_step0 (g_sta rfl rfl th27 rfl hb5 (by first | (simp;done) | (simp [D.leaves,D.width,valCells];done) | decide) fun o6 hb6 hk6=>?_);have hb2_6:=(hk6 _ (by omega)).trans hb2_5;have hb4_6:=(hk6 _ (by omega)).trans hb4_5;refine u_nil ?_;refine WP.seq fun K7 hK7=>?_;refine wr ?_;refine um ?_;refine ub ?_;refine u_nil ?_;refine wc (fun hc9=>?_) (fun hc9=>?_) <;> try simp only [Q0,Q1,Q2,Q3,Q4,Q5,Q6,Q7,Q8,ge_iff_le,gt_iff_lt] at hc9
 ·
  have hd:d=0:=by have hq:=hc9;(try simp at hq);omega
  subst hd;refine wr (uM ?_);refine u_step (g_mcall (s109 _) hb4_6 rfl fun o11 hb11 hk11=>?_);have hb2_11:=(hk11 _ (by omega)).trans hb2_6;have hb6_11:=(hk11 _ (by omega)).trans hb6;refine u_nil (wr (ug th27 hb6_11 ?_));refine u_step0 (g_sta rfl rfl th27 rfl hb2_11 (by first | (simp;done) | (simp [D.leaves,D.width,valCells];done) | decide) fun o13 hb13 hk13=>?_);have hb6_13:=(hk13 _ (by omega)).trans hb6_11;have hb11_13:=(hk13 _ (by omega)).trans hb11;refine u_nil (WP.ret ?_);refine retCM_ok (resis_agg rfl th27 rfl hb13 rfl rfl rfl) ?_ (by omega) hb11_13 (fun t ht=>(hk13 t (by omega)).trans ((hk11 t (by omega)).trans ((hk6 t (by omega)).trans ((hk5 t (by omega)).trans ((hk4 t (by omega)).trans ((hk2 t (by omega))))))));exact leV0 _ _ _
 ·
  obtain ⟨e,he⟩:∃ e,d=e+1:=⟨d - 1,by have hq:=hc9;(try simp at hq);omega⟩;have hde:IntKind.i64.wrap ((d:Int) - 1)=(e:Int):=by rw [wrap_i64 (by omega) (by omega)];omega
  refine WP.skip ?_;refine hK7 _ ?_;refine WP.seq fun K14 hK14=>?_;refine wr ?_;refine uf th27 th3 hb6 ?_;refine ul th3 hb6 ?_;refine u_nil ?_;refine WP.block ?_;refine wr ?_;refine ub ?_;refine ua ?_;refine u_nil ?_;refine wc (fun hc17=>?_) (fun hc17=>?_) <;> try simp only [Q0,Q1,Q2,Q3,Q4,Q5,Q6,Q7,Q8,ge_iff_le,gt_iff_lt] at hc17
  ·
   have g1:(rdByte s).1=1:=by simpa using hc17
   have hr:rdV d s=(.mk (rdByte s).1 0 [] [] [],(rdByte s).2):=by rw [he];simp only [rdV];rw [if_pos g1]
   refine WP.skip (hK14 _ (wr (ug th27 hb6 ?_)));refine u_step0 (g_sta rfl rfl th27 rfl hb2_6 (by first | (simp;done) | (simp [D.leaves,D.width,valCells];done) | decide) fun o19 hb19 hk19=>?_);have hb4_19:=(hk19 _ (by omega)).trans hb4_6;have hb6_19:=(hk19 _ (by omega)).trans hb6;refine u_nil (WP.ret ?_);refine retCM_ok (resis_agg rfl th27 rfl hb19 rfl rfl rfl) ?_ (by omega) (by rw [hr];exact hb4_19) (fun t ht=>(hk19 t (by omega)).trans ((hk6 t (by omega)).trans ((hk5 t (by omega)).trans ((hk4 t (by omega)).trans ((hk2 t (by omega)))))));rw [hr];exact leV0 _ _ _
  ·
   have g1:¬ (rdByte s).1=1:=by simpa using hc17
   refine wr ?_;refine ub ?_;refine ua ?_;refine u_nil ?_;refine wc (fun hc21=>?_) (fun hc21=>?_) <;> try simp only [Q0,Q1,Q2,Q3,Q4,Q5,Q6,Q7,Q8,ge_iff_le,gt_iff_lt] at hc21
   ·
    have g2:(rdByte s).1=2:=by simpa using hc21
    have hr:rdV d s=(.mk (rdByte s).1 (rdByte (rdByte s).2).1 [] [] [],(rdByte (rdByte s).2).2):=by rw [he];simp only [rdV];rw [if_neg g1,if_pos g2]
    refine WP.reg tabOk rfl ?_;refine uM ?_;refine u_step (g_mcall (s106 _) hb4_6 rfl fun o22 hb22 hk22=>?_);have hb2_22:=(hk22 _ (by omega)).trans hb2_6;have hb6_22:=(hk22 _ (by omega)).trans hb6;refine uf th27 th3 hb6_22 ?_;refine u_step0 (g_st rfl rfl rfl th3 rfl hb6_22 (by first | (simp;done) | (simp [D.leaves,D.width];done) | decide) fun o23 hb23 hk23=>?_);have hb2_23:=(hk23 _ (by omega)).trans hb2_22;have hb22_23:=(hk23 _ (by omega)).trans hb22;refine u_nil (hK14 _ (wr (ug th27 hb23 ?_)));refine u_step0 (g_sta rfl rfl th27 rfl hb2_23 (by first | (simp;done) | (simp [D.leaves,D.width,valCells];done) | decide) fun o25 hb25 hk25=>?_);have hb22_25:=(hk25 _ (by omega)).trans hb22_23;have hb23_25:=(hk25 _ (by omega)).trans hb23;refine u_nil (WP.ret ?_);refine retCM_ok (resis_agg rfl th27 rfl hb25 rfl rfl rfl) ?_ (by omega) (by rw [hr];exact hb22_25) (fun t ht=>(hk25 t (by omega)).trans ((hk23 t (by omega)).trans ((hk22 t (by omega)).trans ((hk6 t (by omega)).trans ((hk5 t (by omega)).trans ((hk4 t (by omega)).trans ((hk2 t (by omega)))))))));rw [hr];exact leV0 _ _ _
   ·
    have g2:¬ (rdByte s).1=2:=by simpa using hc21
    refine wr ?_;refine ub ?_;refine ua ?_;refine u_nil ?_;refine wc (fun hc27=>?_) (fun hc27=>?_) <;> try simp only [Q0,Q1,Q2,Q3,Q4,Q5,Q6,Q7,Q8,ge_iff_le,gt_iff_lt] at hc27
    ·
     have g3:(rdByte s).1=3:=by simpa using hc27
     have hr:rdV d s=(.mk (rdByte s).1 (intS (rdByte s).2).1 [] [] [],(intS (rdByte s).2).2):=by rw [he];simp only [rdV];rw [if_neg g1,if_neg g2,if_pos g3]
     refine WP.reg tabOk rfl ?_;refine uM ?_;refine u_step (g_mcall (s179 _) hb4_6 rfl fun o28 hb28 hk28=>?_);have hb2_28:=(hk28 _ (by omega)).trans hb2_6;have hb6_28:=(hk28 _ (by omega)).trans hb6;refine uf th27 th3 hb6_28 ?_;refine u_step0 (g_st rfl rfl rfl th3 rfl hb6_28 (by first | (simp;done) | (simp [D.leaves,D.width];done) | decide) fun o29 hb29 hk29=>?_);have hb2_29:=(hk29 _ (by omega)).trans hb2_28;have hb28_29:=(hk29 _ (by omega)).trans hb28;refine u_nil (hK14 _ (wr (ug th27 hb29 ?_)));refine u_step0 (g_sta rfl rfl th27 rfl hb2_29 (by first | (simp;done) | (simp [D.leaves,D.width,valCells];done) | decide) fun o31 hb31 hk31=>?_);have hb28_31:=(hk31 _ (by omega)).trans hb28_29;have hb29_31:=(hk31 _ (by omega)).trans hb29;refine u_nil (WP.ret ?_);refine retCM_ok (resis_agg rfl th27 rfl hb31 rfl rfl rfl) ?_ (by omega) (by rw [hr];exact hb28_31) (fun t ht=>(hk31 t (by omega)).trans ((hk29 t (by omega)).trans ((hk28 t (by omega)).trans ((hk6 t (by omega)).trans ((hk5 t (by omega)).trans ((hk4 t (by omega)).trans ((hk2 t (by omega)))))))));rw [hr];exact leV0 _ _ _
    ·
     have g3:¬ (rdByte s).1=3:=by simpa using hc27
     refine WP.seqJ ⟨al [(0,.loc k 0),(1,.d (.int .i64 d)),(4,.loc nk 0),(5,.loc (nk+1) 0),(15,.d (.int .i64 (rdByte s).1)),(30,.d (.bool (decide ((rdByte s).1=4∨(rdByte s).1=5))))],o6,((nk+1)+1)⟩ ?_ ?_
     ·
      refine wr ?_;refine ub ?_;refine ua ?_;refine u_nil ?_;refine wc (fun hc33=>?_) (fun hc33=>?_) <;> try simp only [Q0,Q1,Q2,Q3,Q4,Q5,Q6,Q7,Q8,ge_iff_le,gt_iff_lt] at hc33
      ·
       try (have g4:(rdByte s).1=4∨(rdByte s).1=5:=hc33)
       try (have hr:rdV d s=(.mk (rdByte s).1 0 (txtS (rdByte s).2 4096).1 [] [],(txtS (rdByte s).2 4096).2):=by rw [he];simp only [rdV];rw [if_neg g1,if_neg g2,if_neg g3,if_pos g4])
       refine WP.skip ?_;refine Le.al ?_;simp only [List.forall_mem_cons];have hl2:=hc33;refine ⟨rfl,rfl,rfl,rfl,rfl,?_,by simp⟩;refine congrArg (fun z=>SV.d (.bool z)) ?_;rw [Bool.eq_iff_iff,decide_eq_true_iff];simp at hl2 ⊢;omega
      ·
       try (have g4:¬ ((rdByte s).1=4∨(rdByte s).1=5):=hc33)
       refine WP.reg tabOk rfl ?_;refine ub (ua (u_nil ?_));refine Le.al ?_;simp only [List.forall_mem_cons];have hl2:=hc33;refine ⟨rfl,rfl,rfl,rfl,rfl,?_,by simp⟩;refine congrArg (fun z=>SV.d (.bool z)) ?_;rw [Bool.eq_iff_iff,decide_eq_true_iff];simp at hl2 ⊢;omega
     ·
      refine wc (fun hc34=>?_) (fun hc34=>?_) <;> try simp only [Q0,Q1,Q2,Q3,Q4,Q5,Q6,Q7,Q8,ge_iff_le,gt_iff_lt] at hc34
      ·
       try (have g4:(rdByte s).1=4∨(rdByte s).1=5:=hc34)
       try (have hr:rdV d s=(.mk (rdByte s).1 0 (txtS (rdByte s).2 4096).1 [] [],(txtS (rdByte s).2 4096).2):=by rw [he];simp only [rdV];rw [if_neg g1,if_neg g2,if_neg g3,if_pos g4])
       refine WP.reg tabOk rfl ?_;refine uM ?_;refine u_step (g_mcall (s107 _ _ (by omega)) hb4_6 rfl fun o35 hb35 hk35=>?_);have hb2_35:=(hk35 _ (by omega)).trans hb2_6;have hb6_35:=(hk35 _ (by omega)).trans hb6;refine uf th27 th9 hb6_35 ?_;refine u_step0 (g_st rfl rfl rfl th9 rfl hb6_35 (by first | (simp;done) | (simp [D.leaves,D.width];done) | decide) fun o36 hb36 hk36=>?_);have hb2_36:=(hk36 _ (by omega)).trans hb2_35;have hb35_36:=(hk36 _ (by omega)).trans hb35;refine u_nil (hK14 _ (wr (ug th27 hb36 ?_)));refine u_step0 (g_sta rfl rfl th27 rfl hb2_36 (by first | (simp;done) | (simp [D.leaves,D.width,valCells];done) | decide) fun o38 hb38 hk38=>?_);have hb35_38:=(hk38 _ (by omega)).trans hb35_36;have hb36_38:=(hk38 _ (by omega)).trans hb36;refine u_nil (WP.ret ?_);refine retCM_ok (resis_agg rfl th27 rfl hb38 rfl rfl rfl) ?_ (by omega) (by rw [hr];exact hb35_38) (fun t ht=>(hk38 t (by omega)).trans ((hk36 t (by omega)).trans ((hk35 t (by omega)).trans ((hk6 t (by omega)).trans ((hk5 t (by omega)).trans ((hk4 t (by omega)).trans ((hk2 t (by omega)))))))));rw [hr];exact leV0 _ _ _
      ·
       try (have g4:¬ ((rdByte s).1=4∨(rdByte s).1=5):=hc34)
       refine WP.seqJ ⟨al [(0,.loc k 0),(1,.d (.int .i64 d)),(4,.loc nk 0),(5,.loc (nk+1) 0),(15,.d (.int .i64 (rdByte s).1)),(36,.d (.bool (decide ((rdByte s).1=6∨(rdByte s).1=7))))],o6,((nk+1)+1)⟩ ?_ ?_
       ·
        refine wr ?_;refine ub ?_;refine ua ?_;refine u_nil ?_;refine wc (fun hc40=>?_) (fun hc40=>?_) <;> try simp only [Q0,Q1,Q2,Q3,Q4,Q5,Q6,Q7,Q8,ge_iff_le,gt_iff_lt] at hc40
        ·
         try (have g6:(rdByte s).1=6∨(rdByte s).1=7:=hc40)
         try (have hr:rdV d s=(.mk (rdByte s).1 0 [] (rdIs (rdV e) (decide ((rdByte s).1=7)) (cntS (rdByte s).2 4096).1.toNat (cntS (rdByte s).2 4096).2 [] []).1 (rdIs (rdV e) (decide ((rdByte s).1=7)) (cntS (rdByte s).2 4096).1.toNat (cntS (rdByte s).2 4096).2 [] []).2.1,(rdIs (rdV e) (decide ((rdByte s).1=7)) (cntS (rdByte s).2 4096).1.toNat (cntS (rdByte s).2 4096).2 [] []).2.2):=by rw [he];simp only [rdV];rw [if_neg g1,if_neg g2,if_neg g3,if_neg g4,if_pos g6])
         refine WP.skip ?_;refine Le.al ?_;simp only [List.forall_mem_cons];have hl2:=hc40;refine ⟨rfl,rfl,rfl,rfl,rfl,?_,by simp⟩;refine congrArg (fun z=>SV.d (.bool z)) ?_;rw [Bool.eq_iff_iff,decide_eq_true_iff];simp at hl2 ⊢;omega
        ·
         try (have g6:¬ ((rdByte s).1=6∨(rdByte s).1=7):=hc40)
         try (have hr:rdV d s=(.mk (rdByte s).1 0 [] [] [],((rdByte s).2.1,true)):=by rw [he];simp only [rdV];rw [if_neg g1,if_neg g2,if_neg g3,if_neg g4,if_neg g6])
         refine WP.reg tabOk rfl ?_;refine ub (ua (u_nil ?_));refine Le.al ?_;simp only [List.forall_mem_cons];have hl2:=hc40;refine ⟨rfl,rfl,rfl,rfl,rfl,?_,by simp⟩;refine congrArg (fun z=>SV.d (.bool z)) ?_;rw [Bool.eq_iff_iff,decide_eq_true_iff];simp at hl2 ⊢;omega
       ·
        refine wc (fun hc41=>?_) (fun hc41=>?_) <;> try simp only [Q0,Q1,Q2,Q3,Q4,Q5,Q6,Q7,Q8,ge_iff_le,gt_iff_lt] at hc41
        ·
         try (have g6:(rdByte s).1=6∨(rdByte s).1=7:=hc41)
         try (have hr:rdV d s=(.mk (rdByte s).1 0 [] (rdIs (rdV e) (decide ((rdByte s).1=7)) (cntS (rdByte s).2 4096).1.toNat (cntS (rdByte s).2 4096).2 [] []).1 (rdIs (rdV e) (decide ((rdByte s).1=7)) (cntS (rdByte s).2 4096).1.toNat (cntS (rdByte s).2 4096).2 [] []).2.1,(rdIs (rdV e) (decide ((rdByte s).1=7)) (cntS (rdByte s).2 4096).1.toNat (cntS (rdByte s).2 4096).2 [] []).2.2):=by rw [he];simp only [rdV];rw [if_neg g1,if_neg g2,if_neg g3,if_neg g4,if_pos g6])
         refine wr (uM (ug th27 hb6 ?_));refine um ?_;refine u_step (o_bin_int rfl rfl (by decide) (show intBin .sub .i64 (d:Int) 1=some (.int .i64 (e:Int)) from congrArg (fun z=>some (D.int .i64 z)) hde) ?_);refine u_step (g_mcall (hit e he _ _ (by omega)) hb4_6 rfl fun o43 hb43 hk43=>?_);have hb2_43:=(hk43 _ (by omega)).trans hb2_6;have hb6_43:=(hk43 _ (by omega)).trans hb6;refine u_step0 (g_sta rfl rfl th27 rfl hb2_43 (by first | (simp;done) | (simp [D.leaves,D.width,valCells];done) | decide) fun o44 hb44 hk44=>?_);have hb6_44:=(hk44 _ (by omega)).trans hb6_43;have hb43_44:=(hk44 _ (by omega)).trans hb43;refine u_nil (WP.ret ?_);refine retCM_ok (resis_agg rfl th27 rfl hb44 rfl rfl rfl) ?_ (by omega) (by rw [hr];exact hb43_44) (fun t ht=>(hk44 t (by omega)).trans ((hk43 t (by omega)).trans ((hk6 t (by omega)).trans ((hk5 t (by omega)).trans ((hk4 t (by omega)).trans ((hk2 t (by omega))))))));rw [hr];exact D.le_refl _
        ·
         try (have g6:¬ ((rdByte s).1=6∨(rdByte s).1=7):=hc41)
         try (have hr:rdV d s=(.mk (rdByte s).1 0 [] [] [],((rdByte s).2.1,true)):=by rw [he];simp only [rdV];rw [if_neg g1,if_neg g2,if_neg g3,if_neg g4,if_neg g6])
         refine WP.reg tabOk rfl ?_;refine uM ?_;refine u_step (g_mcall (s109 _) hb4_6 rfl fun o45 hb45 hk45=>?_);have hb2_45:=(hk45 _ (by omega)).trans hb2_6;have hb6_45:=(hk45 _ (by omega)).trans hb6;refine u_nil (hK14 _ (wr (ug th27 hb6_45 ?_)));refine u_step0 (g_sta rfl rfl th27 rfl hb2_45 (by first | (simp;done) | (simp [D.leaves,D.width,valCells];done) | decide) fun o47 hb47 hk47=>?_);have hb6_47:=(hk47 _ (by omega)).trans hb6_45;have hb45_47:=(hk47 _ (by omega)).trans hb45;refine u_nil (WP.ret ?_);refine retCM_ok (resis_agg rfl th27 rfl hb47 rfl rfl rfl) ?_ (by omega) (by rw [hr];exact hb45_47) (fun t ht=>(hk47 t (by omega)).trans ((hk45 t (by omega)).trans ((hk6 t (by omega)).trans ((hk5 t (by omega)).trans ((hk4 t (by omega)).trans ((hk2 t (by omega))))))));rw [hr];exact leV0 _ _ _
theorem cnt_rng (s:SB) (m:Int) (h0:0≤m):0≤(cntS s m).1∧(cntS s m).1≤m:=by
 cases h:(takeS s (gP s).2 (rightS (gP s).1 m)).1 with
 | false=>rw [cntS_no h];omega
 | true=>
  rw [cntS_yes h];have hr:rightS (gP s).1 m=true:=by
   unfold takeS at h;split at h
   ·cases h
   ·rename_i hq;cases hz:rightS (gP s).1 m with
    | true=>rfl
    | false=>exact absurd (Or.inr (Or.inr hz)) hq
  simp only [rightS,Bool.and_eq_true,decide_eq_true_eq] at hr;have hw:IntKind.i64.wrap ((gP s).1:Int)=((gP s).1:Int):=wrap_i64 (by omega) (by omega);rw [hw] at hr ⊢;omega
theorem encVs_app (xs:List Val) (v:Val):encVs (xs++[v])=encVs xs++[encV v]:=by simp [encVs_map]
theorem rdIs_doc {rd:SB→Val×SB} {doc:Bool} {n:Nat} {s:SB} {xs:List Val} {ns:List Str} (hd:doc=true) (hb:¬ s.2=true):rdIs rd doc (n+1) s xs ns=rdIs rd doc n (rd (txtS s 32).2).2 (xs++[(rd (txtS s 32).2).1]) (ns++[(txtS s 32).1]):=by
 subst hd;simp only [rdIs,if_neg hb,if_true]
theorem rdIs_arr {rd:SB→Val×SB} {doc:Bool} {n:Nat} {s:SB} {xs:List Val} {ns:List Str} (hd:¬ doc=true) (hb:¬ s.2=true):rdIs rd doc (n+1) s xs ns=rdIs rd doc n (rd s).2 (xs++[(rd s).1]) ns:=by
 simp only [rdIs,if_neg hb,if_neg hd]
theorem rdIs_bad {rd:SB→Val×SB} {doc:Bool} {n:Nat} {s:SB} {xs:List Val} {ns:List Str} (hb:s.2=true):rdIs rd doc n s xs ns=(xs,ns,s):=by
 cases n with
 | zero=>rfl
 | succ n=>simp only [rdIs,if_pos hb]
theorem fn180:FnOkC Tryz.prog 180 33 [.cell 6 27] (bodyOf Tryz.f180):=⟨Tryz.f180,Tryz.func180,by kernel_rfl,by decide,by kernel_rfl,by kernel_rfl⟩
theorem s180 (e:Nat) (ih:∀ s:SB,s.1.length≤4611686018427387904→MSpec Tryz.prog 151 (fun k=>[.loc k 0,.d (.int .i64 e)]) (srcS s) (srcS (rdV e s).2) (.d (encV (rdV e s).1))) (kd:Int) (s:SB) (hx:s.1.length≤4611686018427387904):MSpec Tryz.prog 180 (fun k=>[.loc k 0,.d (.agg [.int .i64 kd,.int .i64 0,.str [],.nil,.nil]),.d (.int .i64 e)]) (srcS s) (srcS (rdIs (rdV e) (decide (kd=7)) (cntS s 4096).1.toNat (cntS s 4096).2 [] []).2.2) (.d (encV (.mk kd 0 [] (rdIs (rdV e) (decide (kd=7)) (cntS s 4096).1.toNat (cntS s 4096).2 [] []).1 (rdIs (rdV e) (decide (kd=7)) (cntS s 4096).1.toNat (cntS s 4096).2 [] []).2.1))):=by
 have hcr:=cnt_rng s 4096 (by decide);have hcl:=cnt_le s 4096;refine MSpec.ofC tabOk fn180 (fun _=>by simp) (fun _=>by first | exact srcS_lts _ _ | simp [SV.lts,SV.lt]) fun o nk k hkn hM=>?_;refine wr ?_;refine u_step (g_box rfl fun o2 hb2 hk2=>?_);have hM_2:=(hk2 _ (by omega)).trans hM;refine u_step (g_alloc th27 rfl fun o3 hb3 hk3=>?_);have hM_3:=(hk3 _ (by omega)).trans hM_2;have hb2_3:=(hk3 _ (by omega)).trans hb2;refine u_nil (WP.seq fun K4 hK4=>?_);refine wr (uM ?_);refine u_step (g_mcall (s92 s 4096) hM_3 rfl fun o6 hb6 hk6=>?_);have hb2_6:=(hk6 _ (by omega)).trans hb2_3;have hb3_6:=(hk6 _ (by omega)).trans hb3;refine um (u_nil (WP.block ?_));refine WP.loopL (ι:=Nat×SB×List Val×List Str×SV×Option Nat×SV×Option Nat×Nat×Nat×(Nat→Option AO)×Nat) (fun ⟨i,s1,xs,ns,c,q,c2,q2,a,b,o2,nk2⟩=>⟨al [(0,.loc k 0),(2,.d (.int .i64 e)),(4,.loc nk 0),(6,.loc (nk+1) 0),(8,.d (.int .i64 (cntS s 4096).1)),(9,.d (.int .i64 i))],o2,nk2⟩) (fun ⟨i,s1,xs,ns,c,q,c2,q2,a,b,o2,nk2⟩=>i≤(cntS s 4096).1.toNat∧nk+2≤nk2∧s1.1.length≤4611686018427387904∧xs.length≤i∧ns.length≤i∧rdIs (rdV e) (decide (kd=7)) ((cntS s 4096).1.toNat - i) s1 xs ns=rdIs (rdV e) (decide (kd=7)) (cntS s 4096).1.toNat (cntS s 4096).2 [] []∧o2 k=some (.box (srcS s1))∧o2 nk=some (.box [.d (.int .i64 kd),.d (.int .i64 0),.d (.str []),c,c2])∧o2 (nk+1)=some (.box [.d (.int .i64 0),.d (.int .i64 0),.d (.str []),.d .nil,.d .nil])∧dstOf o2 27 5 c=some (q,encVs xs)∧(∀ t,q=some t→nk+2≤t∧t < nk2∧t=a)∧dstOf o2 9 1 c2=some (q2,ns.map .str)∧(∀ t,q2=some t→nk+2≤t∧t < nk2∧t=b)∧a < nk2∧b < nk2∧a≠b∧∀ t,t < nk∧t≠k→o2 t=o t) (fun ⟨i,s1,xs,ns,c,q,c2,q2,a,b,o2,nk2⟩=>(cntS s 4096).1.toNat - i) (fun ⟨i,s1,xs,ns,c,q,c2,q2,a,b,o2,nk2⟩ hA=>?_) ⟨0,(cntS s 4096).2,[],[],.d .nil,none,.d .nil,none,0,1,o6,((nk+1)+1)⟩ ?_ ?_
 ·
  obtain ⟨hle,hnk,hsl,hxl,hnl,heq,hsk,hob,hzb,hd,hq,hd2,hq2,hal,hbl,hab,hfr⟩:=hA;refine wr ?_;refine ub ?_;refine u_nil ?_;refine WP.seq fun K8 hK8=>?_;refine wc (fun hc9=>?_) (fun hc9=>?_) <;> try simp only [Q0,Q1,Q2,Q3,Q4,Q5,Q6,Q7,Q8,ge_iff_le,gt_iff_lt] at hc9
  ·
   have hlt:i < (cntS s 4096).1.toNat:=by have hq:=hc9;(try simp at hq);omega
   refine WP.skip ?_;refine hK8 _ ?_;refine WP.seq fun K10 hK10=>?_;refine WP.block ?_;refine WP.seq fun K11 hK11=>?_;refine wr ?_;refine uM ?_;refine u_step (o_scall (s41 s1 hsk) rfl ?_);refine u_nil ?_;refine wc (fun hc13=>?_) (fun hc13=>?_) <;> try simp only [Q0,Q1,Q2,Q3,Q4,Q5,Q6,Q7,Q8,ge_iff_le,gt_iff_lt] at hc13
   ·
    have hbad:s1.2=true:=by simpa using hc13
    have hfin:rdIs (rdV e) (decide (kd=7)) (cntS s 4096).1.toNat (cntS s 4096).2 [] []=(xs,ns,s1):=by rw [← heq];exact rdIs_bad hbad
    refine WP.exit ?_;refine hK4 _ ?_;refine WP.frzC2 (pre:=[.d (.int .i64 kd),.d (.int .i64 0),.d (.str [])]) (post:=[]) [(4,.loc nk 0),(6,.loc (nk+1) 0)] nk hob hd hd2 (fun t h1 h2=>by have:=hq t h1;have:=hq2 t h2;omega) (Nat.le_refl _) (fun t d=>⟨rfl,rfl⟩) (fun t d=>by simp only [List.forall_mem_cons];exact ⟨⟨rfl,rfl⟩,⟨rfl,rfl⟩,by simp⟩) (by simp only [List.forall_mem_cons];exact ⟨rfl,rfl,by simp⟩) (by simp only [List.forall_mem_cons];exact ⟨rfl,rfl,by simp⟩) fun o9 hB9 hk9 hm9=>?_;have hZ9:=hm9 _ _ (by omega) hzb fun t d=>rfl;have hF9:∀ t,t < nk→o9 t=o2 t:=fun t ht=>hk9 t ht (fun h=>by have:=hq t h;omega) (fun h=>by have:=hq2 t h;omega);have hM9:=(hF9 _ hkn).trans hsk;refine wr (ug th27 hB9 ?_);refine u_step0 (g_sta rfl rfl th27 rfl hZ9 (by first | (simp;done) | (simp [D.leaves,D.width,valCells];done) | decide) fun o15 hb15 hk15=>?_);have hM9_15:=(hk15 _ (by omega)).trans hM9;have hB9_15:=(hk15 _ (by omega)).trans hB9;refine u_nil (WP.ret ?_);refine retCM_ok (resis_agg rfl th27 rfl hb15 rfl rfl rfl) ?_ (by omega) (by rw [hfin];exact hM9_15) (fun t ht=>(hk15 t (by omega)).trans ((hF9 t (by omega)).trans ((hfr t (by omega)))));rw [hfin];exact D.le_refl _
   ·
    have hbad:¬ s1.2=true:=by simpa using hc13
    refine WP.skip ?_;refine hK11 _ ?_;refine WP.seq fun K16 hK16=>?_;refine wr ?_;refine uf th27 th3 hob ?_;refine ul th3 hob ?_;refine ub ?_;refine u_nil ?_;refine wc (fun hc18=>?_) (fun hc18=>?_) <;> try simp only [Q0,Q1,Q2,Q3,Q4,Q5,Q6,Q7,Q8,ge_iff_le,gt_iff_lt] at hc18
    ·
     have h7:decide (kd=7)=true:=by simpa using hc18
     refine WP.dr3 [.q 0 1,.q 0 1,.q 0 0,.w 0,.q 1 1,.w 1,.q 2 2,.w 2] [3,5,7] nk2 (nk2+1) (nk2+1) tabOk (by kernel_rfl) rfl (by kernel_rfl) (by kernel_rfl) ?_;apply Exists.intro;apply Exists.intro;apply Exists.intro;refine e_step2 rfl rfl (o_fa_loc rfl th27 rfl rfl th22 (by decide) hob ⟨rfl,rfl,rfl⟩) ?_ ?_;rotate_left;refine e_step2 rfl rfl (o_ld_locV rfl th22 rfl hob rfl ⟨rfl,rfl,rfl⟩) ?_ ?_;rotate_left;refine e_step rfl (o_moveV (v:=.loc _ _) rfl ⟨rfl,rfl,rfl⟩) ?_;refine e_w rfl rfl (w_mcall (s107 s1 32 (by omega)) hsk rfl ⟨rfl,rfl,rfl⟩) ?_;refine e_step rfl (o_bs rfl th22 rfl th9 rfl rfl (by decide) rfl (by decide) (by decide) ⟨rfl,rfl,rfl⟩) ?_;refine e_w rfl rfl (w_apD rfl th22 rfl th9 rfl rfl (by decide) rfl (dst_keep hd2 fun t e=>(by have:=hq2 t e;exact upd_ne _ _ (by omega))) (by simp only [List.length_map,List.length_cons,List.length_nil];omega) (by simp only [List.length_map,List.length_cons,List.length_nil];omega) ⟨rfl,rfl,rfl⟩) ?_;refine e_step rfl (o_fa_loc rfl th27 rfl rfl th22 (by decide) (((upd_ne _ _ (by omega)).trans (killo_ne (fun e=>by have:=hq2 _ e;omega))).trans ((upd_ne _ _ (by omega)).trans hob)) ⟨rfl,rfl,rfl⟩) ?_;refine e_w0 rfl rfl (w_stV rfl rfl (upd_same _ _ _) th22 rfl (((upd_ne _ _ (by omega)).trans (killo_ne (fun e=>by have:=hq2 _ e;omega))).trans ((upd_ne _ _ (by omega)).trans hob)) (by simp) ⟨rfl,rfl,rfl⟩) ?_;refine e_nil rfl fun o22 ho22=>?_;have hbZ_22:=(ho22 _).trans ((upd_ne _ _ (by omega)).trans (((upd_ne _ _ (by omega)).trans (killo_ne (fun e=>by have:=hq2 _ e;omega))).trans ((upd_ne _ _ (by omega)).trans hzb)));have hdC_22:=dst_keep (o':=o22) hd fun t e=>(by have:=hq t e;exact (ho22 t).trans ((upd_ne _ _ (by omega)).trans (((upd_ne _ _ (by omega)).trans (killo_ne (fun e=>by have:=hq2 _ e;omega))).trans (upd_ne _ _ (by omega)))));have hbM_22:=(ho22 _).trans ((upd_ne _ _ (by omega)).trans (((upd_ne _ _ (by omega)).trans (killo_ne (fun e=>by have:=hq2 _ e;omega))).trans (upd_same _ _ _)));have hbr20_22:=(ho22 _).trans ((upd_ne _ _ (by omega)).trans (upd_same _ _ _));have hbB_22:=(ho22 _).trans (upd_same _ _ _);have hk22:∀ t,t < nk∧t≠k→o22 t=o2 t:=fun t ht=>(ho22 t).trans ((upd_ne _ _ (by omega)).trans (((upd_ne _ _ (by omega)).trans (killo_ne (fun e=>by have:=hq2 _ e;omega))).trans (upd_ne _ _ (by omega))))
     ·
      refine hK16 _ ?_;refine WP.dr3 [.q 0 1,.q 0 1,.q 0 0,.q 0 0,.w 0,.q 1 1,.w 1,.q 2 2,.w 2] [4,6,8] (nk2+1) ((nk2+1)+1) ((nk2+1)+1) tabOk (by kernel_rfl) rfl (by kernel_rfl) (by kernel_rfl) ?_;apply Exists.intro;apply Exists.intro;apply Exists.intro;refine e_step2 rfl rfl (o_fa_loc rfl th27 rfl rfl th25 (by decide) hbB_22 ⟨rfl,rfl,rfl⟩) ?_ ?_;rotate_left;refine e_step2 rfl rfl (o_ld_locV rfl th25 rfl hbB_22 rfl ⟨rfl,rfl,rfl⟩) ?_ ?_;rotate_left;refine e_step rfl (o_moveV (v:=.loc _ _) rfl ⟨rfl,rfl,rfl⟩) ?_;refine e_step rfl (o_move rfl ⟨rfl,rfl,rfl⟩) ?_;refine e_w rfl rfl (w_mcall (ih _ (by have:=txt_le s1 32;omega)) hbM_22 rfl ⟨rfl,rfl,rfl⟩) ?_
      first | refine e_step rfl (o_bs rfl th25 rfl th27 rfl rfl (by decide) rfl (by decide) (by decide) ⟨rfl,rfl,rfl⟩) ?_ | refine e_step rfl (o_bs1 rfl (by simp only [encV_width]) th25 rfl th27 rfl rfl (by decide) (by decide) ⟨rfl,rfl,rfl⟩) ?_
      refine e_w rfl rfl (w_apD rfl th25 rfl th27 rfl rfl (by decide) rfl (dst_keep hdC_22 fun t e=>(by have:=hq t e;exact upd_ne _ _ (by omega))) (by simp only [encVs_length,List.length_cons,List.length_nil];omega) (by simp only [encVs_length,List.length_cons,List.length_nil];omega) ⟨rfl,rfl,rfl⟩) ?_;refine e_step rfl (o_fa_loc rfl th27 rfl rfl th25 (by decide) (((upd_ne _ _ (by omega)).trans (killo_ne (fun e=>by have:=hq _ e;omega))).trans ((upd_ne _ _ (by omega)).trans hbB_22)) ⟨rfl,rfl,rfl⟩) ?_;refine e_w0 rfl rfl (w_stV rfl rfl (upd_same _ _ _) th25 rfl (((upd_ne _ _ (by omega)).trans (killo_ne (fun e=>by have:=hq _ e;omega))).trans ((upd_ne _ _ (by omega)).trans hbB_22)) (by simp) ⟨rfl,rfl,rfl⟩) ?_;refine e_nil rfl fun o26 ho26=>?_;have hbZ_26:=(ho26 _).trans ((upd_ne _ _ (by omega)).trans (((upd_ne _ _ (by omega)).trans (killo_ne (fun e=>by have:=hq _ e;omega))).trans ((upd_ne _ _ (by omega)).trans hbZ_22)));have hbr20_26:=(ho26 _).trans ((upd_ne _ _ (by omega)).trans (((upd_ne _ _ (by omega)).trans (killo_ne (fun e=>by have:=hq _ e;omega))).trans ((upd_ne _ _ (by omega)).trans hbr20_22)));have hbM_26:=(ho26 _).trans ((upd_ne _ _ (by omega)).trans (((upd_ne _ _ (by omega)).trans (killo_ne (fun e=>by have:=hq _ e;omega))).trans (upd_same _ _ _)));have hbr24_26:=(ho26 _).trans ((upd_ne _ _ (by omega)).trans (upd_same _ _ _));have hbB_26:=(ho26 _).trans (upd_same _ _ _);have hk26:∀ t,t < nk∧t≠k→o26 t=o22 t:=fun t ht=>(ho26 t).trans ((upd_ne _ _ (by omega)).trans (((upd_ne _ _ (by omega)).trans (killo_ne (fun e=>by have:=hq _ e;omega))).trans (upd_ne _ _ (by omega))))
      ·
       refine hK10 _ (WP.reg tabOk rfl ?_);refine ub (um (u_nil ?_));refine ⟨⟨i+1,(rdV e (txtS s1 32).2).2,xs++[(rdV e (txtS s1 32).2).1],ns++[(txtS s1 32).1],.row _,some _,.row _,some _,_,_,o26,((nk2+1)+1)⟩,⟨by omega,by omega,by have:=rdV_le e (txtS s1 32).2;have:=txt_le s1 32;omega,by simp;omega,by simp;omega,?_,hbM_26,hbB_26,hbZ_26,(encVs_app xs _).symm ▸ dst_row hbr24_26,fun t e=>by injection e with e;exact ⟨by omega,by omega,e.symm⟩,(List.map_append (f:=D.str) (l₁:=ns) (l₂:=[(txtS s1 32).1])).symm ▸ dst_row hbr20_26,fun t e=>by injection e with e;exact ⟨by omega,by omega,e.symm⟩,by omega,by omega,by omega,(fun t ht=>(hk26 t (by omega)).trans ((hk22 t (by omega)).trans ((hfr t (by omega)))))⟩,by simp only;omega,Le.al ?_⟩
       ·rw [← heq,show (cntS s 4096).1.toNat - i=((cntS s 4096).1.toNat - (i+1))+1 by omega];exact (rdIs_doc h7 hbad).symm
       ·simp only [List.forall_mem_cons];exact ⟨rfl,rfl,rfl,rfl,rfl,cnt (by omega),by simp⟩
      exact o_fa_loc rfl th27 rfl rfl th25 (by decide) ((upd_ne _ _ (by omega)).trans hbB_22) ⟨rfl,rfl,rfl⟩;exact o_ld_locV rfl th25 rfl ((upd_ne _ _ (by omega)).trans hbB_22) rfl ⟨rfl,rfl,rfl⟩
     exact o_fa_loc rfl th27 rfl rfl th22 (by decide) ((upd_ne _ _ (by omega)).trans hob) ⟨rfl,rfl,rfl⟩;exact o_ld_locV rfl th22 rfl ((upd_ne _ _ (by omega)).trans hob) rfl ⟨rfl,rfl,rfl⟩
    ·
     have h7:¬ decide (kd=7)=true:=by simpa using hc18
     refine WP.skip (hK16 _ ?_);refine WP.dr3 [.q 0 1,.q 0 1,.q 0 0,.q 0 0,.w 0,.q 1 1,.w 1,.q 2 2,.w 2] [4,6,8] nk2 (nk2+1) (nk2+1) tabOk (by kernel_rfl) rfl (by kernel_rfl) (by kernel_rfl) ?_;apply Exists.intro;apply Exists.intro;apply Exists.intro;refine e_step2 rfl rfl (o_fa_loc rfl th27 rfl rfl th25 (by decide) hob ⟨rfl,rfl,rfl⟩) ?_ ?_;rotate_left;refine e_step2 rfl rfl (o_ld_locV rfl th25 rfl hob rfl ⟨rfl,rfl,rfl⟩) ?_ ?_;rotate_left;refine e_step rfl (o_moveV (v:=.loc _ _) rfl ⟨rfl,rfl,rfl⟩) ?_;refine e_step rfl (o_move rfl ⟨rfl,rfl,rfl⟩) ?_;refine e_w rfl rfl (w_mcall (ih _ (by have:=txt_le s1 32;omega)) hsk rfl ⟨rfl,rfl,rfl⟩) ?_
     first | refine e_step rfl (o_bs rfl th25 rfl th27 rfl rfl (by decide) rfl (by decide) (by decide) ⟨rfl,rfl,rfl⟩) ?_ | refine e_step rfl (o_bs1 rfl (by simp only [encV_width]) th25 rfl th27 rfl rfl (by decide) (by decide) ⟨rfl,rfl,rfl⟩) ?_
     refine e_w rfl rfl (w_apD rfl th25 rfl th27 rfl rfl (by decide) rfl (dst_keep hd fun t e=>(by have:=hq t e;exact upd_ne _ _ (by omega))) (by simp only [encVs_length,List.length_cons,List.length_nil];omega) (by simp only [encVs_length,List.length_cons,List.length_nil];omega) ⟨rfl,rfl,rfl⟩) ?_;refine e_step rfl (o_fa_loc rfl th27 rfl rfl th25 (by decide) (((upd_ne _ _ (by omega)).trans (killo_ne (fun e=>by have:=hq _ e;omega))).trans ((upd_ne _ _ (by omega)).trans hob)) ⟨rfl,rfl,rfl⟩) ?_;refine e_w0 rfl rfl (w_stV rfl rfl (upd_same _ _ _) th25 rfl (((upd_ne _ _ (by omega)).trans (killo_ne (fun e=>by have:=hq _ e;omega))).trans ((upd_ne _ _ (by omega)).trans hob)) (by simp) ⟨rfl,rfl,rfl⟩) ?_;refine e_nil rfl fun o30 ho30=>?_;have hbZ_30:=(ho30 _).trans ((upd_ne _ _ (by omega)).trans (((upd_ne _ _ (by omega)).trans (killo_ne (fun e=>by have:=hq _ e;omega))).trans ((upd_ne _ _ (by omega)).trans hzb)));have hdE_30:=dst_keep (o':=o30) hd2 fun t e=>(by have:=hq2 t e;exact (ho30 t).trans ((upd_ne _ _ (by omega)).trans (((upd_ne _ _ (by omega)).trans (killo_ne (fun e=>by have:=hq _ e;omega))).trans (upd_ne _ _ (by omega)))));have hbM_30:=(ho30 _).trans ((upd_ne _ _ (by omega)).trans (((upd_ne _ _ (by omega)).trans (killo_ne (fun e=>by have:=hq _ e;omega))).trans (upd_same _ _ _)));have hbr28_30:=(ho30 _).trans ((upd_ne _ _ (by omega)).trans (upd_same _ _ _));have hbB_30:=(ho30 _).trans (upd_same _ _ _);have hk30:∀ t,t < nk∧t≠k→o30 t=o2 t:=fun t ht=>(ho30 t).trans ((upd_ne _ _ (by omega)).trans (((upd_ne _ _ (by omega)).trans (killo_ne (fun e=>by have:=hq _ e;omega))).trans (upd_ne _ _ (by omega))))
     ·
      refine hK10 _ (WP.reg tabOk rfl ?_);refine ub (um (u_nil ?_));refine ⟨⟨i+1,(rdV e s1).2,xs++[(rdV e s1).1],ns,.row _,some _,c2,q2,_,b,o30,(nk2+1)⟩,⟨by omega,by omega,by have:=rdV_le e s1;omega,by simp;omega,by omega,?_,hbM_30,hbB_30,hbZ_30,(encVs_app xs _).symm ▸ dst_row hbr28_30,fun t e=>by injection e with e;exact ⟨by omega,by omega,e.symm⟩,hdE_30,fun t e=>by have:=hq2 t e;omega,by omega,by omega,by omega,(fun t ht=>(hk30 t (by omega)).trans ((hfr t (by omega))))⟩,by simp only;omega,Le.al ?_⟩
      ·rw [← heq,show (cntS s 4096).1.toNat - i=((cntS s 4096).1.toNat - (i+1))+1 by omega];exact (rdIs_arr h7 hbad).symm
      ·simp only [List.forall_mem_cons];exact ⟨rfl,rfl,rfl,rfl,rfl,cnt (by omega),by simp⟩
     exact o_fa_loc rfl th27 rfl rfl th25 (by decide) ((upd_ne _ _ (by omega)).trans hob) ⟨rfl,rfl,rfl⟩;exact o_ld_locV rfl th25 rfl ((upd_ne _ _ (by omega)).trans hob) rfl ⟨rfl,rfl,rfl⟩
  ·
   have hge:(cntS s 4096).1.toNat - i=0:=by have hq:=hc9;(try simp at hq);omega
   have hfin:rdIs (rdV e) (decide (kd=7)) (cntS s 4096).1.toNat (cntS s 4096).2 [] []=(xs,ns,s1):=by rw [← heq,hge];rfl
   refine WP.exit ?_;refine hK4 _ ?_;refine WP.frzC2 (pre:=[.d (.int .i64 kd),.d (.int .i64 0),.d (.str [])]) (post:=[]) [(4,.loc nk 0),(6,.loc (nk+1) 0)] nk hob hd hd2 (fun t h1 h2=>by have:=hq t h1;have:=hq2 t h2;omega) (Nat.le_refl _) (fun t d=>⟨rfl,rfl⟩) (fun t d=>by simp only [List.forall_mem_cons];exact ⟨⟨rfl,rfl⟩,⟨rfl,rfl⟩,by simp⟩) (by simp only [List.forall_mem_cons];exact ⟨rfl,rfl,by simp⟩) (by simp only [List.forall_mem_cons];exact ⟨rfl,rfl,by simp⟩) fun o9 hB9 hk9 hm9=>?_;have hZ9:=hm9 _ _ (by omega) hzb fun t d=>rfl;have hF9:∀ t,t < nk→o9 t=o2 t:=fun t ht=>hk9 t ht (fun h=>by have:=hq t h;omega) (fun h=>by have:=hq2 t h;omega);have hM9:=(hF9 _ hkn).trans hsk;refine wr (ug th27 hB9 ?_);refine u_step0 (g_sta rfl rfl th27 rfl hZ9 (by first | (simp;done) | (simp [D.leaves,D.width,valCells];done) | decide) fun o32 hb32 hk32=>?_);have hM9_32:=(hk32 _ (by omega)).trans hM9;have hB9_32:=(hk32 _ (by omega)).trans hB9;refine u_nil (WP.ret ?_);refine retCM_ok (resis_agg rfl th27 rfl hb32 rfl rfl rfl) ?_ (by omega) (by rw [hfin];exact hM9_32) (fun t ht=>(hk32 t (by omega)).trans ((hF9 t (by omega)).trans ((hfr t (by omega)))));rw [hfin];exact D.le_refl _
 ·
  refine ⟨by omega,by omega,by omega,by simp,by simp,rfl,hb6,hb2_6,hb3_6,rfl,by simp,rfl,by simp,by omega,by omega,by decide,(fun t ht=>(hk6 t (by omega)).trans ((hk3 t (by omega)).trans ((hk2 t (by omega)))))⟩
 ·
  refine Le.al ?_;simp only [List.forall_mem_cons];exact ⟨rfl,rfl,rfl,rfl,rfl,rfl,by simp⟩
def pot (s:SB):Nat:=s.1.length+(if s.2=true then 0 else 2)
theorem pot_no (b:List UInt8):pot (b,true)=b.length:=rfl
theorem pot_ok (b:List UInt8):pot (b,false)=b.length+2:=rfl
theorem pot_bad {s:SB} (h:s.2=true):pot s=s.1.length:=by unfold pot;rw [if_pos h];rfl
theorem pot_good {s:SB} (h:s.2=false):pot s=s.1.length+2:=by unfold pot;rw [if_neg (by rw [h];decide)]
theorem pot_byte (s:SB):pot (rdByte s).2+(if s.2=true then 0 else 1)≤pot s:=by
 cases hb:s.2 with
 | true=>rw [rdByte_no (.inl hb)];rw [pot_no,pot_bad hb];simp
 | false=>
  rcases Nat.eq_zero_or_pos s.1.length with hz | hz
  ·rw [rdByte_no (.inr (List.length_eq_zero_iff.1 hz)),pot_no,pot_good hb];simp
  ·rw [rdByte_ok hb hz,pot_ok,pot_good hb];simp;omega
theorem pot_take (s:SB) (n:Nat) (r:Bool):pot (takeS s n r).2≤pot s:=by
 unfold takeS;split
 ·rw [pot_no];unfold pot;omega
 ·rename_i h;have hb:s.2=false:=by cases hb:s.2 with
   | false=>rfl
   | true=>exact absurd (.inl hb) h
  rw [pot_ok,pot_good hb];simp
theorem pot_cnt (s:SB) (m:Int):pot (cntS s m).2≤pot s:=pot_take _ _ _
theorem pot_int (s:SB):pot (intS s).2≤pot s:=pot_take _ _ _
theorem pot_txt (s:SB) (m:Int) (hx:s.1.length≤4611686018427387904):(txtS s m).1.length+pot (txtS s m).2+(if s.2=true then 0 else 1)≤pot s:=by
 cases h:txtBad s m with
 | true=>
  rw [txtS_no h,pot_no];cases hb:s.2 with
  | true=>rw [pot_bad hb];simp
  | false=>rw [pot_good hb];simp
 | false=>
  have hf:=txt_fits (by omega) h;have h0:¬ (gP s).2=0:=by
   simp only [txtBad,Bool.or_eq_false_iff,decide_eq_false_iff_not,beq_eq_false_iff_ne,ne_eq] at h;have:=h.2;omega
  rw [txtS_ok h,pot_ok,pot_good hf.1,hf.1];simp only [List.length_drop,List.length_take,Bool.false_eq_true,if_false];omega
theorem szN_app (ns:List Str) (t:Str):szN (ns++[t])=szN ns+(t.length+1):=by
 induction ns with
 | nil=>simp [szN]
 | cons a r ih=>simp only [List.cons_append,szN,ih];omega
theorem szVs_app (xs:List Val) (v:Val):szVs (xs++[v])=szVs xs+szV v:=by
 induction xs with
 | nil=>simp [szVs]
 | cons a r ih=>simp only [List.cons_append,szVs,ih];omega
theorem rngVs_app (xs:List Val) (v:Val) (h:rngVs xs) (hv:rngV v):rngVs (xs++[v]):=by
 induction xs with
 | nil=>exact ⟨hv,trivial⟩
 | cons a r ih=>exact ⟨h.1,ih h.2⟩
theorem rdIs_sz {rd:SB→Val×SB} (hle:∀ s,(rd s).2.1.length≤s.1.length) (hrd:∀ s,s.1.length≤4611686018427387904→szV (rd s).1+pot (rd s).2≤pot s+(if s.2=true then 1 else 0)) (doc:Bool):∀ (n:Nat) (s:SB) (xs:List Val) (ns:List Str),s.1.length≤4611686018427387904→
    szVs (rdIs rd doc n s xs ns).1+szN (rdIs rd doc n s xs ns).2.1+pot (rdIs rd doc n s xs ns).2.2≤szVs xs+szN ns+pot s
  | 0,s,xs,ns,hx=>Nat.le_refl _
  | n+1,s,xs,ns,hx=>by
    cases hb:s.2 with
    | true=>rw [rdIs_bad hb];exact Nat.le_refl _
    | false=>
      have hb':¬ s.2=true:=by rw [hb];decide
      cases doc with
      | true=>
        rw [rdIs_doc rfl hb'];have h1:=txt_le s 32;have h2:=hrd (txtS s 32).2 (by omega);have h3:=pot_txt s 32 hx;have h4:=rdIs_sz hle hrd true n (rd (txtS s 32).2).2 (xs++[(rd (txtS s 32).2).1]) (ns++[(txtS s 32).1]) (by have:=hle (txtS s 32).2;omega);rw [szVs_app,szN_app] at h4;rw [if_neg hb'] at h3;have h5:(txtS s 32).1.length+pot (txtS s 32).2+(if (txtS s 32).2.2=true then 1 else 0)+1≤pot s:=by
          cases hz:txtBad s 32 with
          | true=>rw [txtS_no hz,pot_no,pot_good hb];simp
          | false=>rw [txtS_ok hz] at h3 ⊢;simp at h3 ⊢;omega
        omega
      | false=>
        rw [rdIs_arr (by decide) hb'];have h2:=hrd s hx;have h4:=rdIs_sz hle hrd false n (rd s).2 (xs++[(rd s).1]) ns (by have:=hle s;omega);rw [szVs_app] at h4;rw [if_neg hb'] at h2;omega
theorem rdV_sz:∀ (d:Nat) (s:SB),s.1.length≤4611686018427387904→szV (rdV d s).1+pot (rdV d s).2≤pot s+(if s.2=true then 1 else 0)
 | 0,s,hx=>by
  have h1:=pot_byte s;have h2:pot ((rdByte s).2.1,true)≤pot (rdByte s).2:=by rw [pot_no];unfold pot;omega
  simp only [rdV,szV,szVs,szN,List.length_nil];split at h1 <;> simp_all <;> omega
 | d+1,s,hx=>by
  have h1:=pot_byte s;have hb:=byte_le s;have h2:pot ((rdByte s).2.1,true)≤pot (rdByte s).2:=by rw [pot_no];unfold pot;omega
  have h3:=pot_byte (rdByte s).2;have h4:=pot_int (rdByte s).2;have h5:=pot_txt (rdByte s).2 4096 (by omega);have h6:=pot_cnt (rdByte s).2 4096;have h7:=rdIs_sz (rd:=rdV d) (rdV_le d) (rdV_sz d) (decide ((rdByte s).1=7)) (cntS (rdByte s).2 4096).1.toNat (cntS (rdByte s).2 4096).2 [] [] (by have:=cnt_le (rdByte s).2 4096;omega);simp only [szVs,szN] at h7;have h8:1+pot (rdByte s).2≤pot s+(if s.2=true then 1 else 0):=by split at h1 <;> simp_all <;> omega
  obtain ⟨q,hq⟩:∃ q:Nat,(if s.2=true then 1 else 0)=q:=⟨_,rfl⟩;rw [hq] at h8 ⊢;clear h1 hq;simp only [rdV]
  repeat' split
  all_goals simp only [szV,szVs,szN,List.length_nil]
  all_goals omega
theorem rngs_rdIs {rd:SB→Val×SB} (hrd:∀ s,rngV (rd s).1) (doc:Bool):∀ (n:Nat) (s:SB) (xs:List Val) (ns:List Str),rngVs xs→rngVs (rdIs rd doc n s xs ns).1
 | 0,s,xs,ns,h=>h
 | n+1,s,xs,ns,h=>by
  simp only [rdIs];split
  ·exact h
  ·exact rngs_rdIs hrd doc n _ _ _ (rngVs_app _ _ h (hrd _))
theorem byte_rng (s:SB):0≤(rdByte s).1∧(rdByte s).1≤255:=by
 unfold rdByte;split
 ·simp
 ·have:=(s.1.headD 0).toNat_lt;simp only;omega
theorem int_rng (s:SB):-9223372036854775808≤(intS s).1∧(intS s).1≤9223372036854775807:=by
 have h:=(gP_len s).2.1;unfold intS;simp only;split
 ·unfold zagI;split <;> omega
 ·omega
theorem rdV_rng:∀ (d:Nat) (s:SB),rngV (rdV d s).1
 | 0,s=>⟨by omega,trivial⟩
 | d+1,s=>by
  have hb:=byte_rng (rdByte s).2;have hi:=int_rng (rdByte s).2;simp only [rdV]
  repeat' split
  ·exact ⟨by omega,trivial⟩
  ·exact ⟨by omega,trivial⟩
  ·exact ⟨by omega,trivial⟩
  ·exact ⟨by omega,trivial⟩
  ·exact ⟨by omega,rngs_rdIs (rdV_rng d) _ _ _ _ _ trivial⟩
  ·exact ⟨by omega,trivial⟩
theorem rd151:∀ (d:Nat),d≤8→∀ s:SB,s.1.length≤4611686018427387904→MSpec Tryz.prog 151 (fun k=>[.loc k 0,.d (.int .i64 d)]) (srcS s) (srcS (rdV d s).2) (.d (encV (rdV d s).1))
 | 0,hd,s,hx=>s151 0 hd s hx (fun e he=>by omega)
 | d+1,hd,s,hx=>s151 (d+1) hd s hx (fun e he kd s hx=>s180 e (fun s hx=>by
  have h:e=d:=by omega
  rw [h];exact rd151 d (by omega) s hx) kd s hx)
def rdAll (s:SB):Val×SB:=if (rdV 8 s).2.2=true∨¬ checkV (rdV 8 s).1=0 then (.mk 0 0 [] [] [],((rdV 8 s).2.1,true)) else rdV 8 s
theorem rdAll_no {s:SB} (h:(rdV 8 s).2.2=true∨¬ checkV (rdV 8 s).1=0):rdAll s=(.mk 0 0 [] [] [],((rdV 8 s).2.1,true)):=if_pos h
theorem rdAll_ok {s:SB} (h:¬ ((rdV 8 s).2.2=true∨¬ checkV (rdV 8 s).1=0)):rdAll s=rdV 8 s:=if_neg h
theorem fn108:FnOkC Tryz.prog 108 17 [.cell 2 27] (bodyOf Tryz.f108):=⟨Tryz.f108,Tryz.func108,by kernel_rfl,by decide,by kernel_rfl,by kernel_rfl⟩
theorem s108 (s:SB) (hx:s.1.length≤1048576):MSpec Tryz.prog 108 (fun k=>[.loc k 0]) (srcS s) (srcS (rdAll s).2) (.d (encV (rdAll s).1)):=by
 have hsz:szV (rdV 8 s).1≤1099511627776:=by
  have h1:=rdV_sz 8 s (by omega);have h2:pot s≤s.1.length+2:=by (unfold pot;split <;> omega)
  split at h1 <;> omega
 refine MSpec.ofC tabOk fn108 (fun _=>by simp) (fun _=>by first | exact srcS_lts _ _ | simp [SV.lts,SV.lt]) fun o nk k hkn hM=>?_;refine wr ?_;refine u_step (g_alloc th27 rfl fun o2 hb2 hk2=>?_);have hM_2:=(hk2 _ (by omega)).trans hM;refine u_nil (wr (uM ?_));refine u_step (g_mcall (rd151 8 (by decide) s (by omega)) hM_2 rfl fun o4 hb4 hk4=>?_);have hb2_4:=(hk4 _ (by omega)).trans hb2;refine u_step (g_alloc th27 rfl fun o5 hb5 hk5=>?_);have hb2_5:=(hk5 _ (by omega)).trans hb2_4;have hb4_5:=(hk5 _ (by omega)).trans hb4;refine u_step0 (g_sta rfl (congrArg SV.d (encV_eq _)) th27 rfl hb5 (by simp [valCells]) fun o6 hb6 hk6=>?_);have hb2_6:=(hk6 _ (by omega)).trans hb2_5;have hb4_6:=(hk6 _ (by omega)).trans hb4_5;refine u_nil (WP.seq fun K7 hK7=>?_);refine wr (uM ?_);refine u_step (o_scall (s41 _ hb4_6) rfl ?_);refine um ?_;apply gF
 ·rfl
 ·intro hg;exact pg th27 hb6
 apply gF
 ·rfl
 ·intro hg;try simp only [hg,ct,Bt]
  refine o_pcall (pv (s123 (rdV 8 s).1 (rdV_rng 8 s) hsz)) rfl ⟨rfl,rfl,rfl⟩
 apply gF
 ·rfl
 ·intro hg;try simp only [hg,ct,Bt]
  exact pb
 refine uO ?_;refine u_nil ?_;refine wc (fun hc9=>?_) (fun hc9=>?_) <;> try simp only [Q0,Q1,Q2,Q3,Q4,Q5,Q6,Q7,Q8,ge_iff_le,gt_iff_lt] at hc9
 ·
  have hz:(rdV 8 s).2.2=true∨¬ checkV (rdV 8 s).1=0:=by have hq:=hc9;simpa using hq
  refine wr (uM ?_);refine u_step (g_mcall (s109 _) hb4_6 rfl fun o11 hb11 hk11=>?_);have hb2_11:=(hk11 _ (by omega)).trans hb2_6;have hb6_11:=(hk11 _ (by omega)).trans hb6;refine u_nil (wr ?_);refine u_step (o_bu rfl th27 rfl rfl ?_);refine u_step0 (g_sta rfl rfl th27 rfl hb2_11 (by first | (simp;done) | (simp [D.leaves,D.width,valCells];done) | decide) fun o13 hb13 hk13=>?_);have hb6_13:=(hk13 _ (by omega)).trans hb6_11;have hb11_13:=(hk13 _ (by omega)).trans hb11;refine u_nil (WP.ret ?_);refine retCM_ok (resis_agg rfl th27 rfl hb13 rfl rfl rfl) ?_ (by omega) (by rw [rdAll_no hz];exact hb11_13) (fun t ht=>(hk13 t (by omega)).trans ((hk11 t (by omega)).trans ((hk6 t (by omega)).trans ((hk5 t (by omega)).trans ((hk4 t (by omega)).trans ((hk2 t (by omega))))))));rw [rdAll_no hz];exact leV0 _ _ _
 ·
  have hz:¬ ((rdV 8 s).2.2=true∨¬ checkV (rdV 8 s).1=0):=by have hq:=hc9;simpa using hq
  refine WP.skip (hK7 _ (wr (ug th27 hb6 ?_)));refine u_step0 (g_sta rfl rfl th27 rfl hb2_6 (by first | (simp;done) | (simp [D.leaves,D.width,valCells];done) | decide) fun o15 hb15 hk15=>?_);have hb4_15:=(hk15 _ (by omega)).trans hb4_6;have hb6_15:=(hk15 _ (by omega)).trans hb6;refine u_nil (WP.ret ?_);refine retCM_ok (resis_agg rfl th27 rfl hb15 rfl rfl rfl) ?_ (by omega) (by rw [rdAll_ok hz];exact hb4_15) (fun t ht=>(hk15 t (by omega)).trans ((hk6 t (by omega)).trans ((hk5 t (by omega)).trans ((hk4 t (by omega)).trans ((hk2 t (by omega)))))));rw [rdAll_ok hz];rw [encV_eq];exact D.le_refl _
def SBq (a b:SB):Prop:=a.2=b.2∧(a.2=false→a=b)
theorem SBq.refl (a:SB):SBq a a:=⟨rfl,fun _=>rfl⟩
theorem SBq.bad {a b:SB} (ha:a.2=true) (hb:b.2=true):SBq a b:=⟨ha.trans hb.symm,fun h=>by rw [ha] at h;cases h⟩
theorem SBq.cases {a b:SB} (h:SBq a b):a=b∨(a.2=true∧b.2=true):=by
 cases ha:a.2 with
 | false=>exact .inl (h.2 ha)
 | true=>exact .inr ⟨rfl,by rw [← h.1];exact ha⟩
theorem rdAll_le (s:SB):(rdAll s).2.1.length≤s.1.length:=by
 unfold rdAll;split <;> exact rdV_le 8 s
end Go.Proofs.YtpkcbdhjnnnkbaaGreat.Abs
