/- DeltaTwice: called with any value and any changes that hold together at most 1048576 values and letters, the law answers true, and both read afterwards as they read before. -/
import Derived.Test.YtpkcbdhjnnnkbaaMDeltaTwice4
import Derived.Laws.RangeAny
import Derived.Laws.RangeString
import Derived.Test.YtpkcbdhjnnnkbaaMDeltaTwice2
import Derived.Test.YtpkcbdhjnnnkbaaRows
import Derived.WalkKit
import Derived.ProofKit
import Derived.OpenShut
import Derived.JoinedCond
import Derived.ChangeArms
import Derived.Carry
import Derived.Test.YtpkcbdhjnnnkbaaMDeltaTwice3
set_option linter.unusedSimpArgs false
set_option linter.unusedVariables false
set_option maxHeartbeats 4000000
set_option maxRecDepth 100000
namespace Go.Proofs.Ytpkcbdhjnnnkbaa.Abs
open Go
def idxL (s:Str):List D:=if 0≤stepI s then [.int .i64 (stepI s),.bool true] else [.int .i64 0,.bool false]
theorem dec_dig {s:Str} {i:Nat} (h:i < s.length) (h2:(Utf8.decode ⟨s.toArray⟩ i).1≤57):Utf8.decode ⟨s.toArray⟩ i=((s[i]'h).toNat,1):=by
 have hs:i < (⟨s.toArray⟩:ByteArray).size:=by simpa [ByteArray.size] using h
 have hg:(⟨s.toArray⟩:ByteArray)[i]'hs=s[i]'h:=rfl;by_cases ha:(s[i]'h).toNat < 128
 ·have:=decode_ascii ⟨s.toArray⟩ i hs (by rw [hg];exact ha);rw [this,hg]
 ·have:=(decode_high ⟨s.toArray⟩ i hs (by rw [hg];omega)).1;omega
theorem dig_not {s:Str} {i:Nat} (h:i < s.length) (h2:(Utf8.decode ⟨s.toArray⟩ i).1 < 48∨57 < (Utf8.decode ⟨s.toArray⟩ i).1):isDig (s[i]'h)=false:=by
 have hs:i < (⟨s.toArray⟩:ByteArray).size:=by simpa [ByteArray.size] using h
 have hg:(⟨s.toArray⟩:ByteArray)[i]'hs=s[i]'h:=rfl;simp only [isDig,Bool.and_eq_false_iff,decide_eq_false_iff_not];by_cases ha:(s[i]'h).toNat < 128
 ·have:=decode_ascii ⟨s.toArray⟩ i hs (by rw [hg];exact ha);rw [this,hg] at h2;simp only at h2;omega
 ·omega
theorem wrap_i32 {m:Int} (h1:-2147483648≤m) (h2:m≤2147483647):IntKind.i32.wrap m=m:=by
 simp only [IntKind.wrap,IntKind.bits,IntKind.signed];simp;omega
theorem dig_step2 {n c:Nat} (hn:n < 1000) (h1:48≤c) (h2:c≤57):SV.d (.int .i64 (IntKind.i64.wrap (IntKind.i64.wrap (10 * (n:Int))+IntKind.i64.wrap (IntKind.i32.wrap ((c:Int) - 48)))))=SV.d (.int .i64 ((10 * n+(c - 48):Nat):Int)):=by
 rw [wrap_i32 (by omega) (by omega),wrap_i64 (m:=10 * (n:Int)) (by omega) (by omega),wrap_i64 (m:=(c:Int) - 48) (by omega) (by omega),wrap_i64 (by omega) (by omega)];refine congrArg (fun m:Int=>SV.d (.int .i64 m)) ?_;omega
theorem idx_no {s:Str} (h:stepI s=-1):idxL s=[.int .i64 0,.bool false]:=by
 unfold idxL;rw [if_neg (by omega)]
theorem idx_at {s:Str} {n:Nat} (h:stepI s=(n:Int)):idxL s=[.int .i64 (n:Int),.bool true]:=by
 unfold idxL;rw [if_pos (by omega),h]
theorem stepI_out {s:Str} (h:s.length < 1∨3 < s.length∨(s[0]?=some 48∧1 < s.length)):stepI s=-1:=by
 unfold stepI;rw [if_pos h]
theorem stepI_in {s:Str} (h1:1≤s.length) (h3:s.length≤3) (h:¬ (s[0]?=some 48∧1 < s.length)):stepI s=if s.all isDig then (digN s 0:Int) else -1:=by
 unfold stepI;rw [if_neg];rintro (h' | h' | h')
 ·omega
 ·omega
 ·exact h h'
theorem zero_head {s:Str} (h0:0 < s.length):bAt s (0:Int).toNat=48↔s[0]?=some 48:=by
 rw [Int.toNat_zero,bAt_eq h0,List.getElem?_eq_getElem h0,Option.some.injEq];exact toNat_eq (n:=48) (by omega)
theorem fn99:FnOk Try.prog 99 43 [2,3] (bodyOf Try.f99):=⟨Try.f99,Try.func99,by kernel_rfl,by decide,by kernel_rfl,by kernel_rfl⟩
theorem s99 (s:Str):PSpec Try.prog 99 [.d (.str s)] (.tup ((idxL s).map .d)):=by
 refine PSpec.of2 fn99 (by simp) fun o nk=>?_;refine wr (ua (ua (u_nil (WP.seq fun K2 hK2=>?_))));refine wr (um ?_);refine u_step (o_len_str rfl th9 rfl ?_);refine ub (um ?_);apply gF
 ·rfl
 ·intro hg;exact pm
 apply gF
 ·rfl
 ·intro hg;try simp only [hg,ct,Bt]
  refine o_len_str rfl th9 rfl ⟨rfl,rfl,rfl⟩
 apply gF
 ·rfl
 ·intro hg;try simp only [hg,ct,Bt]
  exact pb
 refine uO (um ?_);apply gF
 ·rfl
 ·intro hg;exact pm
 apply gF
 ·rfl
 ·intro hg;try simp only [hg,ct,Bt]
  refine o_len_str rfl th9 rfl ⟨rfl,rfl,rfl⟩
 apply gF
 ·rfl
 ·intro hg;try simp only [hg,ct,Bt]
  exact pb
 apply gF
 ·rfl
 ·intro hg;try simp only [hg,ct,Bt]
  exact pm
 apply u_guard
 ·exact GC.ct _ _
 ·intro hg;exact pm
 apply u_guard
 ·exact GC.ct _ _
 ·intro hg;try simp only [hg,ct,Bt]
  have hg2:=hg;try simp only [Q0,Q1,Q2,Q3,Q4,Q5,Q6,Q9,Qa,Qb,Qc,Qd] at hg2
  refine o_ix rfl rfl th9 rfl ?_ ?_ ⟨rfl,rfl,rfl⟩
  ·decide
  ·simp at hg2;simp;omega
 apply u_guard
 ·exact GC.ct _ _
 ·intro hg;try simp only [hg,ct,Bt]
  exact pb
 apply gF
 ·rfl
 ·intro hg;try simp only [hg,ct,Bt]
  exact pA
 refine uO ?_;refine u_nil ?_;refine wc (fun hc4=>?_) (fun hc4=>?_) <;> try simp only [Q0,Q1,Q2,Q3,Q4,Q5,Q6,Q7,Q8,ge_iff_le,gt_iff_lt] at hc4
 ·
  refine wr (ua (ua (u_nil (WP.ret ?_))));refine retT_ok ?_ (by omega) (fun _ _=>rfl);clear hK2;have hq:=hc4;have hs:stepI s=-1:=by
   refine stepI_out ?_;simp only [Bool.or_eq_true,Bool.and_eq_true,decide_eq_true_eq,beq_iff_eq] at hq;rcases hq with (h | h) | ⟨h2,h⟩
   ·exact .inl (by omega)
   ·exact .inr (.inl (by omega))
   ·exact .inr (.inr ⟨(zero_head (by omega)).1 h,by omega⟩)
  rw [idx_no hs];rfl
 ·
  have hq:=Bool.or_eq_false_iff.1 hc4;have hq1:=Bool.or_eq_false_iff.1 hq.1;have hl1:1≤s.length:=by have:=hq1.1;simp at this;omega
  have hl3:s.length≤3:=by have:=hq1.2;simp at this;omega
  refine WP.skip (hK2 _ (wr (ua (u_nil (WP.seq fun K7 hK7=>?_)))));refine wr (um ?_);refine u_step (g_range rfl th9 rfl fun o9 hb9 hk9=>?_);refine u_nil (WP.block ?_);refine WP.loopL (ι:=Nat×(Nat→Option AO)) (fun ⟨i,o2⟩=>⟨al [(4,.d (.int .i64 (digN (s.take i) 0:Nat))),(26,.raw nk)],o2,(nk+1)⟩) (fun ⟨i,o2⟩=>i≤s.length∧o2 nk=some (.raw (itOb s i))∧(∀ t,t < nk→o2 t=o t)∧(s.take i).all isDig=true) (fun ⟨i,o2⟩=>s.length - i) (fun ⟨i,o2⟩ hA=>?_) ⟨0,o9⟩ ?_ ?_
  ·
   obtain ⟨hle,hob,hfr,hin_i⟩:=hA;refine wr ?_;refine u_step (g_next rfl hob (fun hp11 o11 hb11 hk11=>?_) (fun hp11=>?_))
   ·
    refine ue (u_nil (WP.seq fun K12 hK12=>?_));refine WP.cond rfl (fun hc13=>?_) (fun hc13=>by cases hc13);refine WP.skip (hK12 _ (WP.block (wr (ue (ua (u_nil (WP.seq fun K15 hK15=>?_)))))));refine wr (um (ub (um ?_)));apply gF
    ·rfl
    ·intro hg;exact pm
    apply gF
    ·rfl
    ·intro hg;try simp only [hg,ct,Bt]
     exact pb
    refine uO ?_;refine u_nil ?_;refine wc (fun hc17=>?_) (fun hc17=>?_) <;> try simp only [Q0,Q1,Q2,Q3,Q4,Q5,Q6,Q7,Q8,ge_iff_le,gt_iff_lt] at hc17
    ·
     refine wr (ua (ua (u_nil (WP.ret ?_))));refine retT_ok ?_ (by omega) (fun t ht=>(hk11 t (by omega)).trans ((hfr t (by omega))));have hz:¬ (s[0]?=some 48∧1 < s.length):=by
      rintro ⟨h,h2⟩;have h3:=hq.2;rw [(zero_head (by omega)).2 h] at h3;simp at h3;omega
     have hb:=hc17;simp only [Bool.or_eq_true,decide_eq_true_eq] at hb;have hd:=dig_not (s:=s) (i:=i) (by omega) (by omega);have hs:stepI s=-1:=by rw [stepI_in hl1 hl3 hz,if_neg (by rw [all_false (p:=isDig) (by omega) hd];simp)]
     rw [idx_no hs];rfl
    ·
     refine WP.skip (hK15 _ (WP.reg tabOk rfl ?_));refine um (ub (um (ub (uc th21 th3 ?_))));refine ub (ua (u_nil ?_));have hb:=Bool.or_eq_false_iff.1 hc17;simp only [decide_eq_false_iff_not] at hb;have hdd:=dec_dig (s:=s) (i:=i) (by omega) (by omega);have hlt:=digN_le hin_i (by simp;omega);have h9:=dig_step2 (n:=digN (s.take i) 0) (c:=(Utf8.decode ⟨s.toArray⟩ i).1) hlt (by omega) (by omega);have hd1:s[i].toNat=(Utf8.decode ⟨s.toArray⟩ i).1:=by rw [hdd]
     refine ⟨⟨i+1,o11⟩,⟨by omega,?_,(fun t ht=>(hk11 t (by omega)).trans ((hfr t (by omega)))),?_⟩,by simp only;omega,?_⟩
     ·have hft:=hb11;rw [hdd] at hft;exact hft
     ·rw [all_snoc (by omega),hin_i];simp only [isDig,Bool.true_and,Bool.and_eq_true,decide_eq_true_eq];omega
     ·refine Le.al ?_;simp only [List.forall_mem_cons];refine ⟨?_,rfl,by simp⟩;rw [take_snoc (by omega),digN_snoc,hd1,← h9];rfl
   ·
    refine ue (u_nil (WP.seq fun K19 hK19=>?_));refine WP.cond rfl (fun hc20=>by cases hc20) (fun hc20=>?_);refine WP.exit ?_;refine hK7 _ (wr (um (ua (ua (u_nil (WP.ret ?_))))));refine retT_ok ?_ (by omega) (fun t ht=>(hfr t (by omega)));have hz:¬ (s[0]?=some 48∧1 < s.length):=by
     rintro ⟨h,h2⟩;have h3:=hq.2;rw [(zero_head (by omega)).2 h] at h3;simp at h3;omega
    have h1:=all_true (by omega) hin_i;have hs:stepI s=(digN (s.take i) 0:Int):=by rw [stepI_in hl1 hl3 hz,if_pos h1,List.take_of_length_le (by omega)]
    rw [idx_at hs];rfl
  ·
   refine ⟨by simp,hb9,(fun t ht=>(hk9 t (by omega))),by simp⟩
  ·
   refine Le.al ?_;simp only [List.forall_mem_cons];exact ⟨rfl,rfl,by simp⟩
theorem cmpI_zero {a b:Int}:cmpI a b=0↔a=b:=by unfold cmpI;split <;> (try split) <;> omega
theorem orI_zero {x:Int} {r:List Int}:orI (x :: r)=0↔x=0∧orI r=0:=by
 simp only [orI];split <;> simp_all
theorem cmpB_zero:∀ {s t:Str},Go.Lib.compareBytes s t=0↔s=t
 | [],[]=>by simp [Go.Lib.compareBytes]
 | [],_ :: _=>by simp [Go.Lib.compareBytes]
 | _ :: _,[]=>by simp [Go.Lib.compareBytes]
 | a :: s,b :: t=>by
  have ih:=cmpB_zero (s:=s) (t:=t);simp only [Go.Lib.compareBytes,List.cons.injEq];by_cases h1:a < b
  ·have:a≠b:=fun e=>by subst e;exact UInt8.lt_irrefl _ h1
   simp [h1,this]
  ·by_cases h2:b < a
   ·have:a≠b:=fun e=>by subst e;exact UInt8.lt_irrefl _ h2
    simp [h1,h2,this]
   ·have:a=b:=UInt8.le_antisymm (UInt8.not_lt.1 h2) (UInt8.not_lt.1 h1);simp [h1,h2,this,ih]
mutual
def cmpV:Val→Val→Int
 | .mk k i t xs ns,w=>orI [cmpI k w.kind,cmpI i w.int,Go.Lib.compareBytes t w.text,cmpsV xs (decide (k=7)) w.items ns w.names]
def cmpsV:List Val→Bool→List Val→List Str→List Str→Int
 | [],_,ys,_,_=>cmpI 0 ys.length
 | x :: xs,doc,ys,ns,ms=>match ys with
  | []=>1
  | y :: ys=>orI [if doc=true then Go.Lib.compareBytes (ns.headD []) (ms.headD []) else 0,cmpV x y,cmpsV xs doc ys ns.tail ms.tail]
end
mutual
theorem cmpV_refl:∀ v,cmpV v v=0
 | .mk k i t xs ns=>by
  have h:=cmpsV_refl xs (decide (k=7)) ns;rw [cmpV];simp only [Val.kind,Val.int,Val.text,Val.items,Val.names,orI_zero,h,cmpI_zero.2 rfl,cmpB_zero.2 rfl];simp [orI]
theorem cmpsV_refl:∀ xs doc ns,cmpsV xs doc xs ns ns=0
 | [],_,_=>by rw [cmpsV];rfl
 | x :: xs,doc,ns=>by
  have h1:=cmpV_refl x;have h2:=cmpsV_refl xs doc ns.tail;rw [cmpsV];simp only [orI_zero,h1,h2,cmpB_zero.2 rfl];simp [orI]
end
mutual
theorem cmpV_eq:∀ (v w:Val),mayV v=true→mayV w=true→cmpV v w=0→v=w
 | .mk k i t xs ns,.mk k' i' t' ys ms,hv,hw,h=>by
  rw [cmpV] at h;simp only [Val.kind,Val.int,Val.text,Val.items,Val.names,orI_zero,cmpI_zero,cmpB_zero] at h;obtain ⟨rfl,rfl,rfl,h4,_⟩:=h;have hm1:maysV xs=true:=by rw [mayV] at hv;simp at hv;exact hv.1.1
  have hm2:maysV ys=true:=by rw [mayV] at hw;simp at hw;exact hw.1.1
  obtain ⟨rfl,h6⟩:=cmpsV_eq xs ys hm1 hm2 _ _ _ h4;have hn:ns=ms:=by
   by_cases hk:k=7
   ·subst hk;exact h6 (by simp) (may7 hv) (may7 hw)
   ·rw [mayV] at hv hw;simp only [Bool.and_eq_true,kindOk] at hv hw;have h1:=hv.2;have h2:=hw.2;have:ns.length=0∧ms.length=0:=by
     constructor
     ·grind
     ·grind
    rw [List.eq_nil_of_length_eq_zero this.1,List.eq_nil_of_length_eq_zero this.2]
  rw [hn]
theorem cmpsV_eq:∀ (xs ys:List Val),maysV xs=true→maysV ys=true→∀ (doc:Bool) (ns ms:List Str),cmpsV xs doc ys ns ms=0→xs=ys∧(doc=true→ns.length=xs.length→ms.length=ys.length→ns=ms)
 | [],ys,_,_,doc,ns,ms,h=>by
  rw [cmpsV,cmpI_zero] at h;have:ys=[]:=List.eq_nil_of_length_eq_zero (by omega);subst this;exact ⟨rfl,fun _ h1 h2=>by rw [List.eq_nil_of_length_eq_zero h1,List.eq_nil_of_length_eq_zero h2]⟩
 | x :: xs,[],_,_,doc,ns,ms,h=>by rw [cmpsV] at h;cases h
 | x :: xs,y :: ys,hx,hy,doc,ns,ms,h=>by
  rw [cmpsV] at h;simp only [orI_zero] at h;obtain ⟨h1,h2,h3,_⟩:=h;simp only [maysV,Bool.and_eq_true] at hx hy;have e1:=cmpV_eq x y hx.1 hy.1 h2;obtain ⟨e2,e3⟩:=cmpsV_eq xs ys hx.2 hy.2 doc ns.tail ms.tail h3;refine ⟨by rw [e1,e2],fun hd l1 l2=>?_⟩;rw [if_pos hd,cmpB_zero] at h1;cases ns with
  | nil=>simp at l1
  | cons n ns=>
   cases ms with
   | nil=>simp at l2
   | cons m ms=>
    simp only [List.headD_cons] at h1;have e4:ns=ms:=e3 hd (by simpa using l1) (by simpa using l2);rw [h1,e4]
end
theorem encVs_snoc {xs:List Val} {i:Nat} (h:i < xs.length):encVs (xs.take (i+1))=encVs (xs.take i)++[encV (xs[i]'h)]:=by
 rw [List.take_succ_eq_append_getElem h,encVs_map,encVs_map,List.map_append];rfl
theorem fn57:FnOk Try.prog 57 8 [2] (bodyOf Try.f57):=⟨Try.f57,Try.func57,by kernel_rfl,by decide,by kernel_rfl,by kernel_rfl⟩
theorem s57 (ns:List Str) (hsz:ns.length≤1099511627776):DSpec Try.prog 57 [.d (.sl 1 (ns.map .str))] 9 1 (ns.map .str):=by
 refine DSpec.of fn57 (by simp) fun o nk=>?_;refine wr ?_;refine ua ?_;refine u_nil ?_;refine WP.seq fun K2 hK2=>?_;refine wr ?_;refine um ?_;refine u_step (o_eqnil rfl rfl th22 rfl fun nb4 hnb4=>?_);refine u_nil ?_;refine wc (fun hc5=>?_) (fun hc5=>?_) <;> try simp only [Q0,Q1,Q2,Q3,Q4,Q5,Q6,Q7,Q8,ge_iff_le,gt_iff_lt] at hc5
 ·
  refine wr (ua (u_nil (WP.ret ?_)));refine dnil_ok rfl ?_ (by omega) (fun _ _=>rfl);exact hnb4 hc5
 ·
  refine WP.skip (hK2 _ (wr ?_));refine u_step (g_bs0 th22 rfl th9 rfl rfl (by decide) fun o8 hb8 hk8=>?_);refine um ?_;refine u_step (g_ap rfl rfl th22 rfl th9 rfl rfl (by decide) rfl hb8 (by simp only [List.length_nil,List.length_map];omega) (by simp only [List.length_nil,List.length_map];omega) fun o9 hb9 hk9=>?_);refine uS (u_nil (WP.ret ?_));refine drow_ok rfl (by omega) (by omega) ?_ (fun t ht=>(hk9 t (by omega) (by omega)).trans ((hk8 t (by omega))));simpa using hb9
theorem fn35:FnOkC Try.prog 35 28 [.cell 2 27] (bodyOf Try.f35):=⟨Try.f35,Try.func35,by kernel_rfl,by decide,by kernel_rfl,by kernel_rfl⟩
theorem s35A (m:Nat):∀ v:Val,SizeOf.sizeOf v < m→szV v≤1099511627776→PSpec Try.prog 35 [.d (encV v)] (.d (encV v)):=by
 induction m with
 | zero=>intros;omega
 | succ m ih=>
  rintro ⟨kd,it,tx,xs,ns⟩ hv hsz;have hsz2:1+tx.length+szVs xs+szN ns≤1099511627776:=hsz;have hxl:=szVs_len xs;have hnl:=szN_len ns;have hln:=encVs_length xs;refine PSpec.ofC1 tabOk fn35 (by simp) fun o nk=>?_;refine wr ?_;refine u_step (g_box rfl fun o2 hb2 hk2=>?_);refine u_step (g_alloc th27 rfl fun o3 hb3 hk3=>?_);have hb2_3:=(hk3 _ (by omega)).trans hb2;refine u_nil (wr (uf th27 th22 hb2_3 ?_));refine ul th22 hb2_3 ?_;refine u_step (o_pcall ((s57 ns (by omega)).frz) rfl ?_);refine uf th27 th22 hb2_3 ?_;refine u_step0 (g_st rfl rfl rfl th22 rfl hb2_3 (by simp) fun o5 hb5 hk5=>?_);have hb3_5:=(hk5 _ (by omega)).trans hb3;refine u_nil (wr (uf th27 th25 hb5 ?_));refine ul th25 hb5 ?_;refine ua (u_nil (wr (uf th27 th25 hb5 ?_)));refine u_step0 (g_st rfl rfl rfl th25 rfl hb5 (by simp) fun o8 hb8 hk8=>?_);have hb3_8:=(hk8 _ (by omega)).trans hb3_5;refine u_nil (WP.seq fun K9 hK9=>?_);refine wr (um (un th25 ?_));refine um (u_nil (WP.block ?_));refine WP.loopL (ι:=Nat×SV×Option Nat×(Nat→Option AO)×Nat) (fun ⟨i,c,q,o2,nk2⟩=>⟨al [(1,.loc nk 0),(2,.loc (nk+1) 0),(13,.d (.sl 5 (encVs xs))),(14,.d (.int .i64 (encVs xs).length)),(15,.d (.int .i64 i))],o2,nk2⟩) (fun ⟨i,c,q,o2,nk2⟩=>i≤xs.length∧nk+2≤nk2∧o2 nk=some (.box [.d (.int .i64 kd),.d (.int .i64 it),.d (.str tx),c,.d (.sl 1 (ns.map .str))])∧o2 (nk+1)=some (.box [.d (.int .i64 0),.d (.int .i64 0),.d (.str []),.d .nil,.d .nil])∧dstOf o2 27 5 c=some (q,encVs (xs.take i))∧(∀ t,q=some t→nk+2≤t∧t < nk2)∧∀ t,t < nk→o2 t=o t) (fun ⟨i,c,q,o2,nk2⟩=>xs.length - i) (fun ⟨i,c,q,o2,nk2⟩ hA=>?_) ⟨0,.d .nil,none,o8,((nk+1)+1)⟩ ?_ ?_
  ·
   obtain ⟨hle,hnk,hob,hzb,hd,hq,hfr⟩:=hA;refine wr ?_;refine ub ?_;refine u_nil ?_;refine WP.seq fun K12 hK12=>?_;refine wc (fun hc13=>?_) (fun hc13=>?_) <;> try simp only [Q0,Q1,Q2,Q3,Q4,Q5,Q6,Q7,Q8,ge_iff_le,gt_iff_lt] at hc13
   ·
    refine WP.skip (hK12 _ (WP.seq fun K14 hK14=>?_));refine WP.block (wr ?_)
    first | refine u_step (o_ia_map rfl rfl th25 rfl th27 rfl (by omega) ?_) | refine u_step (o_ia_vs rfl rfl th25 rfl th27 rfl (by omega) ?_)
    refine uL th27 ?_;refine u_step (g_alloc th27 rfl fun o16 hb16 hk16=>?_);have hob_16:=(hk16 _ (by omega)).trans hob;have hzb_16:=(hk16 _ (by omega)).trans hzb;have hd_16:=dst_keep hd fun t e=>hk16 t (by have:=hq t e;omega);refine u_step0 (g_sta rfl (congrArg SV.d (encV_eq _)) th27 rfl hb16 (by simp [valCells]) fun o17 hb17 hk17=>?_);have hob_17:=(hk17 _ (by omega)).trans hob_16;have hzb_17:=(hk17 _ (by omega)).trans hzb_16;have hd_17:=dst_keep hd_16 fun t e=>hk17 t (by have:=hq t e;omega);refine u_nil ?_;refine WP.dr2 [.q 0 0,.q 0 0,.q 0 0,.q 0 0,.q 0 0,.w 0,.q 1 1,.w 1] [5,7] ((nk2+1)+1) ((nk2+1)+1) tabOk (by kernel_rfl) rfl (by kernel_rfl) (by kernel_rfl) ?_;apply Exists.intro;apply Exists.intro;refine e_step rfl (o_fa_loc rfl th27 rfl rfl th25 (by decide) hob_17 ⟨rfl,rfl,rfl⟩) ?_;refine e_step rfl (o_ld_locV rfl th25 rfl hob_17 rfl ⟨rfl,rfl,rfl⟩) ?_;refine e_step rfl (o_ld_agg rfl th27 rfl hb17 rfl rfl rfl ⟨rfl,rfl,rfl⟩) ?_;refine e_step rfl (o_pcall (pv (v:=xs[i]) (ih _ (by exact items_lt' (by omega) hv) (by have:=szVs_get (xs:=xs) (j:=i) (by omega);omega))) rfl ⟨rfl,rfl,rfl⟩) ?_
    first | refine e_step rfl (o_bs rfl th25 rfl th27 rfl rfl (by decide) rfl (by decide) (by decide) ⟨rfl,rfl,rfl⟩) ?_ | refine e_step rfl (o_bs1 rfl (by simp only [encV_width]) th25 rfl th27 rfl rfl (by decide) (by decide) ⟨rfl,rfl,rfl⟩) ?_
    refine e_w rfl rfl (w_apD rfl th25 rfl th27 rfl rfl (by decide) rfl hd_17 (by simp only [encVs_length,List.length_take,List.length_cons,List.length_nil];omega) (by simp only [encVs_length,List.length_take,List.length_cons,List.length_nil];omega) ⟨rfl,rfl,rfl⟩) ?_;refine e_step rfl (o_fa_loc rfl th27 rfl rfl th25 (by decide) (((upd_ne _ _ (by omega)).trans (killo_ne (fun e=>by have:=hq _ e;omega))).trans hob_17) ⟨rfl,rfl,rfl⟩) ?_;refine e_w0 rfl rfl (w_stV rfl rfl (upd_same _ _ _) th25 rfl (((upd_ne _ _ (by omega)).trans (killo_ne (fun e=>by have:=hq _ e;omega))).trans hob_17) (by simp) ⟨rfl,rfl,rfl⟩) ?_;refine e_nil rfl fun o20 ho20=>?_;have hbZ_20:=(ho20 _).trans ((upd_ne _ _ (by omega)).trans (((upd_ne _ _ (by omega)).trans (killo_ne (fun e=>by have:=hq _ e;omega))).trans hzb_17));have hbb16_20:=(ho20 _).trans ((upd_ne _ _ (by omega)).trans (((upd_ne _ _ (by omega)).trans (killo_ne (fun e=>by have:=hq _ e;omega))).trans hb17));have hbr18_20:=(ho20 _).trans ((upd_ne _ _ (by omega)).trans (upd_same _ _ _));have hbB_20:=(ho20 _).trans (upd_same _ _ _);have hk20:∀ t,t < nk→o20 t=o17 t:=fun t ht=>(ho20 t).trans ((upd_ne _ _ (by omega)).trans ((upd_ne _ _ (by omega)).trans (killo_ne (fun e=>by have:=hq _ e;omega))));refine hK14 _ (WP.reg tabOk rfl ?_);refine ub (um (u_nil ?_));refine ⟨⟨i+1,.row _,some _,o20,((nk2+1)+1)⟩,⟨by omega,by omega,hbB_20,hbZ_20,(encVs_snoc (xs:=xs) (i:=i) (by omega)) ▸ dst_row hbr18_20,fun t e=>by injection e with e;omega,(fun t ht=>(hk20 t (by omega)).trans ((hk17 t (by omega)).trans ((hk16 t (by omega)).trans ((hfr t (by omega))))))⟩,by simp only;omega,?_⟩;refine Le.al ?_;simp only [List.forall_mem_cons];exact ⟨rfl,rfl,rfl,rfl,cnt (by omega),by simp⟩
   ·
    refine WP.exit ?_;refine hK9 _ ?_;refine WP.frzC (pre:=[.d (.int .i64 kd),.d (.int .i64 it),.d (.str tx)]) (post:=[.d (.sl 1 (ns.map .str))]) [(1,.loc nk 0),(2,.loc (nk+1) 0)] nk hob hd (Nat.le_refl _) (fun t e=>⟨rfl,rfl⟩) (fun t e=>by simp only [List.forall_mem_cons];exact ⟨rfl,rfl,by simp⟩) (fun e=>by simp only [List.forall_mem_cons];exact ⟨rfl,rfl,by simp⟩) fun o9 hB9 hk9 hm9=>?_;have hZ9:=hm9 _ _ (by omega) hzb fun t e=>rfl;have hF9:∀ t,t < nk→o9 t=o t:=fun t ht=>(hk9 t ht (fun e=>by have:=hq _ e;omega)).trans (hfr t ht);refine wr (ug th27 hB9 ?_);refine u_step0 (g_sta rfl rfl th27 rfl hZ9 (by first | (simp;done) | (simp [D.leaves,D.width,valCells];done) | decide) fun o22 hb22 hk22=>?_);have hB9_22:=(hk22 _ (by omega)).trans hB9;refine u_nil (WP.ret ?_);refine retC1_ok (resis_agg rfl th27 rfl hb22 rfl rfl rfl) ?_ (by omega) (fun t ht=>(hk22 t (by omega)).trans ((hF9 t (by omega))));rw [List.take_of_length_le (by omega)];rfl
  ·
   refine ⟨by omega,by omega,hb8,hb3_8,rfl,by simp,(fun t ht=>(hk8 t (by omega)).trans ((hk5 t (by omega)).trans ((hk3 t (by omega)).trans ((hk2 t (by omega))))))⟩
  ·
   refine Le.al ?_;simp only [List.forall_mem_cons];exact ⟨rfl,rfl,rfl,rfl,rfl,by simp⟩
theorem s35 (v:Val) (hsz:szV v≤1099511627776):PSpec Try.prog 35 [.d (encV v)] (.d (encV v)):=s35A _ v (Nat.lt_succ_self _) hsz
def placeV (v:Val) (s:Str):Int:=
 if v.kind=7 then idxS v.names s else if v.kind=6 then (if stepI s < v.items.length then stepI s else -1) else -1
theorem place7 {k i:Int} {t:Str} {xs:List Val} {ns:List Str} {s:Str} (h:k=7):placeV (.mk k i t xs ns) s=idxS ns s:=by
 show (if k=7 then _ else _)=_;rw [if_pos h];rfl
def zeroV:Val:=.mk 0 0 [] [] []
theorem item_ex {xs:List Val} {j:Nat} (h:j < xs.length):∃ x,xs[j]?=some x:=⟨_,List.getElem?_eq_getElem h⟩
theorem items_at {v:Val} {j:Nat} {x:Val} (h:v.items[j]?=some x):(encVs v.items)[j]?=some (encV x):=by
 rw [encVs_map,List.getElem?_map,h];rfl
theorem s99b (s:Str):PSpec Try.prog 99 [.d (.str s)] (.tup [.d (.int .i64 (if 0≤stepI s then stepI s else 0)),.d (.bool (decide (0≤stepI s)))]):=by
 have h:=s99 s;have e:(idxL s).map SV.d=[.d (.int .i64 (if 0≤stepI s then stepI s else 0)),.d (.bool (decide (0≤stepI s)))]:=by
  unfold idxL;split <;> simp_all
 rwa [e] at h
theorem idx_lt (ns:List Str) (s:Str):idxS ns s < ns.length:=by
 unfold idxS firstI;split
 ·rename_i h;have:=List.findIdx_lt_length_of_exists (xs:=ns) (p:=fun x=>decide (s=x)) (by simpa using h);omega
 ·omega
theorem stepI_ge (s:Str):-1≤stepI s:=by unfold stepI;split <;> (try split) <;> omega
theorem may_item {v:Val} (h:mayV v=true) {x:Val} (hx:x∈v.items):mayV x=true:=by
 obtain ⟨k,i,t,xs,ns⟩:=v;obtain ⟨j,hj,rfl⟩:=List.mem_iff_getElem.1 hx;exact may_items h hj
theorem place_lt {v:Val} (h:mayV v=true) (s:Str):placeV v s < v.items.length:=by
 unfold placeV;split
 ·rename_i hk;obtain ⟨k,i,t,xs,ns⟩:=v;simp only [Val.kind] at hk;subst hk;have:=idx_lt ns s;have:=may7 h;simp only [Val.names,Val.items];omega
 ·split
  ·split <;> omega
  ·omega
theorem sz_item {v:Val} {j:Nat} {x:Val} (h:v.items[j]?=some x):szV x≤szV v:=by
 obtain ⟨k,i,t,xs,ns⟩:=v;simp only [Val.items] at h;obtain ⟨hj,rfl⟩:=List.getElem?_eq_some_iff.1 h;have:=szVs_get hj;simp only [szV];omega
structure Etr where
 term:Int
 kind:Int
 coll:Str
 to:Str
 id:Val
 doc:Val
 deltas:List Dlt
 session:Int
 number:Int
structure Flt where
 coll:Str
 path:List Str
 kinds:Int
theorem fn69:FnOk Try.prog 69 31 [4] (bodyOf Try.f69):=⟨Try.f69,Try.func69,by kernel_rfl,by decide,by kernel_rfl,by kernel_rfl⟩
theorem s69 (v:Val) (s:Str):PSpec Try.prog 69 [.d (encV v),.d (.str s)] (.d (.int .i64 (placeV v s))):=by
 obtain ⟨kd,it,tx,xs,ns⟩:=v;refine PSpec.of fn69 (by simp) fun o nk=>?_;refine wr ?_;refine u_step (g_box rfl fun o2 hb2 hk2=>?_);refine ua ?_;refine u_nil ?_;refine WP.seq fun K3 hK3=>?_;refine wr ?_;refine uf th27 th3 hb2 ?_;refine ul th3 hb2 ?_;refine u_nil ?_;refine WP.block ?_;refine wr ?_;refine ub ?_;refine ua ?_;refine u_nil ?_;refine wc (fun hc6=>?_) (fun hc6=>?_) <;> try simp only [Q0,Q1,Q2,Q3,Q4,Q5,Q6,Q7,Q8,ge_iff_le,gt_iff_lt] at hc6
 ·
  refine wr (uf th27 th22 hb2 ?_);refine ul th22 hb2 ?_;refine um ?_;refine u_step (o_pcall (s98 ns s) rfl ?_);refine ua (u_nil (WP.ret ?_));refine ret_ok rfl ?_ (by omega) (fun t ht=>(hk2 t (by omega)));clear hK3;refine congrArg (D.int .i64) ?_;have e1:=encVs_length xs;have e2:=stepI_ge s;simp only [beq_iff_eq,beq_eq_false_iff_ne,ne_eq,Bool.and_eq_true,Bool.and_eq_false_iff,decide_eq_true_eq,decide_eq_false_iff_not] at hc6;simp only [placeV,Val.kind,Val.items,Val.names]
  grind
 ·
  refine wr ?_;refine ub ?_;refine ua ?_;refine u_nil ?_;refine wc (fun hc9=>?_) (fun hc9=>?_) <;> try simp only [Q0,Q1,Q2,Q3,Q4,Q5,Q6,Q7,Q8,ge_iff_le,gt_iff_lt] at hc9
  ·
   refine wr (um ?_);refine u_step (o_pcall (s99b s) rfl ?_);refine u_step (o_moveV (v:=.tup _) rfl ?_);refine ue (ue (ua (ua (u_nil (wr (um (um ?_)))))));apply gT
   ·rfl
   ·intro hg;exact pm
   apply gT
   ·rfl
   ·intro hg;exact pf th27 th25 hb2
   apply gT
   ·rfl
   ·intro hg;try simp only [hg,ct,Bt]
    exact pl th25 hb2
   apply gT
   ·rfl
   ·intro hg;try simp only [hg,ct,Bt]
    exact pn th25
   apply gT
   ·rfl
   ·intro hg;try simp only [hg,ct,Bt]
    exact pb
   refine uA ?_;refine u_nil ?_;refine wc (fun hc12=>?_) (fun hc12=>?_) <;> try simp only [Q0,Q1,Q2,Q3,Q4,Q5,Q6,Q7,Q8,ge_iff_le,gt_iff_lt] at hc12
   ·
    refine wr (um (ua (u_nil (WP.ret ?_))));refine ret_ok rfl ?_ (by omega) (fun t ht=>(hk2 t (by omega)));clear hK3;refine congrArg (D.int .i64) ?_;have e1:=encVs_length xs;have e2:=stepI_ge s;simp only [beq_iff_eq,beq_eq_false_iff_ne,ne_eq,Bool.and_eq_true,Bool.and_eq_false_iff,decide_eq_true_eq,decide_eq_false_iff_not] at hc6 hc9 hc12;simp only [placeV,Val.kind,Val.items,Val.names]
    grind
   ·
    refine WP.skip (hK3 _ (wr (ua (u_nil (WP.ret ?_)))));refine ret_ok rfl ?_ (by omega) (fun t ht=>(hk2 t (by omega)));clear hK3;refine congrArg (D.int .i64) ?_;have e1:=encVs_length xs;have e2:=stepI_ge s;simp only [beq_iff_eq,beq_eq_false_iff_ne,ne_eq,Bool.and_eq_true,Bool.and_eq_false_iff,decide_eq_true_eq,decide_eq_false_iff_not] at hc6 hc9 hc12;simp only [placeV,Val.kind,Val.items,Val.names]
    grind
  ·
   refine WP.skip (hK3 _ (wr (ua (u_nil (WP.ret ?_)))));refine ret_ok rfl ?_ (by omega) (fun t ht=>(hk2 t (by omega)));clear hK3;refine congrArg (D.int .i64) ?_;have e1:=encVs_length xs;have e2:=stepI_ge s;simp only [beq_iff_eq,beq_eq_false_iff_ne,ne_eq,Bool.and_eq_true,Bool.and_eq_false_iff,decide_eq_true_eq,decide_eq_false_iff_not] at hc6 hc9;simp only [placeV,Val.kind,Val.items,Val.names]
   grind
theorem check_may {v:Val} (h:checkV v=0):mayV v=true:=by
 unfold checkV at h;split at h
 ·cases h
 ·rename_i hm;simpa using hm
theorem checkD_all {l:List Dlt} (h:checkD l=0):∀ d∈l,mayD d=true:=by
 unfold checkD at h;split at h
 ·cases h
 ·split at h
  ·rename_i h1;exact List.all_eq_true.1 h1
  ·cases h
def s2:Str:=[36,0]
def encB (b:UInt8):D:=.int .u8 (b.toNat:Int)
abbrev SB:=List UInt8×Bool
def srcS (s:SB):List SV:=[.d (.sl 1 (s.1.map encB)),.d (.bool s.2)]
@[simp] theorem srcS_len (s:SB):(srcS s).length=2:=rfl
section
variable {P:Program} {Θ:Tab} {K:SV→(Nat→Option AO)→Nat→Prop} {sl:Nat→SV} {o:Nat→Option AO} {nk:Nat} {x:Operand} {t e:Nat}
end
def gBad (i c:Nat):Prop:=(i=9∧1 < c)∨(0 < i∧c=0)
instance (i c:Nat):Decidable (gBad i c):=by unfold gBad;infer_instance
def SBq (a b:SB):Prop:=a.2=b.2∧(a.2=false→a=b)
theorem SBq.refl (a:SB):SBq a a:=⟨rfl,fun _=>rfl⟩
theorem SBq.bad {a b:SB} (ha:a.2=true) (hb:b.2=true):SBq a b:=⟨ha.trans hb.symm,fun h=>by rw [ha] at h;cases h⟩
theorem SBq.cases {a b:SB} (h:SBq a b):a=b∨(a.2=true∧b.2=true):=by
 cases ha:a.2 with
 | false=>exact .inl (h.2 ha)
 | true=>exact .inr ⟨rfl,by rw [← h.1];exact ha⟩
theorem PSpec.wk {P:Program} {f:FuncId} {us:List SV} {x x':D} (h:PSpec P f us (.d x')) (hx:D.le x' x):PSpec P f us (.d x):=fun o nk=>Spec.weak (Q:=fun o' nk'=>o'=o∧nk'=nk) ((h o nk).mono fun r o' nk' h=>⟨⟨x',h.1,hx⟩,h.2⟩)
def hasC (k:Int):Bool:=decide (2≤k) && decide (k≤7)
def hasT (k:Int):Bool:=decide (k=7)
def hasI (k:Int):Bool:=decide (k=2) || decide (k=3) || decide (k=4)
def hasD (k:Int):Bool:=decide (k=2)
def hasS (k:Int):Bool:=decide (k=3)
structure Bits (k:Int):Prop where
 t1:(bitsOf .and .i64 (fieldsV k) 2 != 0)=hasT k
 t0:(bitsOf .and .i64 (fieldsV k) 2 == 0)=!hasT k
 c1:(bitsOf .and .i64 (fieldsV k) 1 != 0)=hasC k
 c0:(bitsOf .and .i64 (fieldsV k) 1 == 0)=!hasC k
 i1:(bitsOf .and .i64 (fieldsV k) 4 != 0)=hasI k
 i0:(bitsOf .and .i64 (fieldsV k) 4 == 0)=!hasI k
 d1:(bitsOf .and .i64 (fieldsV k) 8 != 0)=hasD k
 d0:(bitsOf .and .i64 (fieldsV k) 8 == 0)=!hasD k
 s1:(bitsOf .and .i64 (fieldsV k) 16 != 0)=hasS k
 s0:(bitsOf .and .i64 (fieldsV k) 16 == 0)=!hasS k
structure OkE (e:Etr):Prop where
 ri:rngV e.id
 si:szV e.id≤1099511627776
 rd:rngV e.doc
 sd:szV e.doc≤1099511627776
 ds:e.deltas.length≤64→∀ d∈e.deltas,okD d
open Classical in
open Classical in
@[simp] theorem vc_len (v:Val):(valCells v).length=5:=by cases v;rfl
open Go.ChangeShapes Go.WideShapes Go.ChangeAt Go.RowKit Go.WideElems
def Sof (w:World):Nat→Prop:=fun k=>k < w.heap.size
def RdC (w:World) (xs:List D) (cs:List Value):Prop:=cs.length=xs.length∧∀ (i:Nat) (x:D) (v:Value),xs[i]?=some x→cs[i]?=some v→Rd w (Sof w) x v
def D.cl:D→List D
 | .agg xs=>xs
 | x=>[x]
def D.ok1:D→Prop
 | .agg xs=>xs.all D.leaf=true
 | _=>True
theorem val_of {w:World} {x:D} {cs:List Value} (h:RdC w x.cl cs) (ho:x.ok1):∃ v:Value,v.cells.toList=cs∧Rd w (Sof w) x v:=by
 obtain ⟨h1,h2⟩:=h;by_cases hx:x.leaf=true
 ·have hc:x.cl=[x]:=by cases x <;> first | rfl | (simp [D.leaf] at hx)
  rw [hc] at h1 h2
  match cs,h1 with
  | [v],_=>
   have hr:=h2 0 x v rfl rfl;exact ⟨v,by rw [hr.leaf_cells hx],hr⟩
 ·cases x <;> simp [D.leaf] at hx
  rename_i xs;exact ⟨.agg cs.toArray,by simp [Value.cells],.agg xs cs ho h1 h2⟩
theorem rdC_one {w:World} {x:D} {v:Value} (h:Rd w (Sof w) x v):RdC w [x] [v]:=by
 refine ⟨rfl,fun i y u h1 h2=>?_⟩
 match i with
 | 0=>simp at h1 h2;subst h1;subst h2;exact h
 | i+1=>simp at h1
theorem rdC_nil {w:World} {cs:List Value} {o:Nat} (h:cs.length=o):RdC w [] (cs.drop o):=⟨by simp [h],fun i x v h=>by simp at h⟩
theorem rdC_cat {w:World} {xs ys:List D} {cs:List Value} {o n:Nat} (h1:RdC w xs ((cs.drop o).take n)) (hn:xs.length=n) (h2:RdC w ys (cs.drop (o+n))):RdC w (xs++ys) (cs.drop o):=by
 obtain ⟨a1,a2⟩:=h1;obtain ⟨b1,b2⟩:=h2;have hl:n≤(cs.drop o).length:=by simp at a1 ⊢;omega
 have he:cs.drop o=(cs.drop o).take n++cs.drop (o+n):=by rw [← List.drop_drop];exact (List.take_append_drop n _).symm
 refine ⟨by simp at b1 hl ⊢;omega,fun i x v hx hv=>?_⟩;rcases Nat.lt_or_ge i xs.length with h | h
 ·rw [List.getElem?_append_left h] at hx;exact a2 i x v hx (by rw [List.getElem?_take,if_pos (by omega)];exact hv)
 ·rw [List.getElem?_append_right h] at hx;refine b2 (i - xs.length) x v hx ?_;rw [List.getElem?_drop] at hv ⊢;rw [show o+n+(i - xs.length)=o+i by omega];exact hv
theorem list_of {α:Type} {Q:Nat→α→Prop}:∀ n,(∀ i,i < n→∃ a,Q i a)→∃ l:List α,l.length=n∧∀ i a,l[i]?=some a→Q i a
 | 0,_=>⟨[],rfl,by simp⟩
 | n+1,h=>by
  obtain ⟨l,h1,h2⟩:=list_of n fun i hi=>h i (by omega);obtain ⟨a,ha⟩:=h n (by omega);refine ⟨l++[a],by simp [h1],fun i b hb=>?_⟩;rcases Nat.lt_or_ge i l.length with hi | hi
  ·rw [List.getElem?_append_left hi] at hb;exact h2 i b hb
  ·rw [List.getElem?_append_right hi] at hb;have:i - l.length=0:=by
    rcases Nat.eq_zero_or_pos (i - l.length) with h' | h'
    ·exact h'
    ·rw [List.getElem?_eq_none (by simp;omega)] at hb;cases hb
   rw [this] at hb;simp at hb;subst hb;rw [show i=n by omega];exact ha
theorem mapM_some {α β:Type} {f:α→Option β}:∀ {l:List α} {r:List β},l.mapM f=some r→r.length=l.length∧∀ (i:Nat) (a:α),l[i]?=some a→f a=r[i]?
 | [],r,h=>by
  simp at h;subst h;exact ⟨rfl,by simp⟩
 | a :: l,r,h=>by
  rw [List.mapM_cons] at h;simp only [Option.bind_eq_bind,Option.bind_eq_some_iff,Option.pure_def,Option.some.injEq] at h;obtain ⟨b,hb,r',hr,rfl⟩:=h;obtain ⟨h1,h2⟩:=mapM_some hr;refine ⟨by simp [h1],fun i x hx=>?_⟩
  match i with
  | 0=>simp at hx;subst hx;simpa using hb
  | i+1=>simpa using h2 i x (by simpa using hx)
theorem cells_some {w:World} {b n:Nat} {a:Addr} {cs:List Value} (h:w.cells? b a n=some cs):cs.length=n∧∀ j,j < n→w.cell? (a.add j)=cs[j]?:=by
 unfold World.cells? at h;split at h
 ·obtain ⟨h1,h2⟩:=mapM_some h;rw [List.length_range] at h1;exact ⟨h1,fun j hj=>h2 j j (by rw [List.getElem?_range hj])⟩
 ·cases h
section
variable {H:Type} {enc:TypeId×Value→H} {P:Program} {w:World} {base fuel:Nat} {spare:Nat→Bool} {held:Bool} {t e:TypeId} {cs:List Value} {x:DataW H×List MemPlace}
def All2 {α:Type} (A:α→DataW H→Prop) (l:List α) (es:List (DataW H)):Prop:=l.length=es.length∧∀ (i:Nat) (a:α) (y:DataW H),l[i]?=some a→es[i]?=some y→A a y
def SlD {α:Type} (A:α→DataW H→Prop) (l:List α) (d:DataW H):Prop:=(d=.nil∧l=[])∨∃ es sp,d=.slice es sp∧All2 A l es
theorem rd_slice {α:Type} {z:Nat} (encA:α→D) (A:α→DataW H→Prop) (hu:P.underlying t=some (.slice e)) (hz:P.cellsOf e=z) (hz0:0 < z) (hzA:∀ a,(encA a).cl.length=z) (hok:∀ a,(encA a).ok1)
    (h:DataW.trod enc P w base spare held fuel t cs=some x)
    (he:∀ n cs x,n < fuel→DataW.trod enc P w base spare held n e cs=some x→∃ a,RdC w (encA a).cl cs∧A a x.1) :
    ∃ l:List α,RdC w [.sl z (l.map encA)] cs∧SlD A l x.1:=by
  rcases DataW.trod_slice hu h with ⟨rfl,rfl⟩ | ⟨a,len,cap,elems,rest,n,hf,rfl,rfl,hb,hlc,hcm,hlen,hel,_⟩
  · exact ⟨[],rdC_one (.emp _ _ _ (by omega)),.inl ⟨rfl,rfl⟩⟩
  · rw [hz] at hel;have key:∀ i,i < len→∃ p:α×Value,(∃ cs',w.cells? base (a.add (i * z)) z=some cs'∧p.2.cells.toList=cs')∧Rd w (Sof w) (encA p.1) p.2∧∀ y,elems[i]?=some y→A p.1 y.1:=by
      intro i hi;have h1:=hel i hi;rw [List.getElem?_eq_getElem (by omega)] at h1;obtain ⟨cs',h2,h3⟩:=Option.bind_eq_some_iff.1 h1;obtain ⟨b,h4,h5⟩:=he n cs' _ (by omega) h3;obtain ⟨v,h6,h7⟩:=val_of h4 (hok b);refine ⟨(b,v),⟨cs',h2,h6⟩,h7,fun y hy=>?_⟩;rw [List.getElem?_eq_getElem (by omega)] at hy;injection hy with hy;rw [← hy];exact h5
    obtain ⟨l,hl1,hl2⟩:=list_of len key;refine ⟨l.map (·.1),?_,.inr ⟨_,_,rfl,by simp [hl1,hlen],fun i b y hb' hy=>?_⟩⟩
    · refine rdC_one ?_;rcases Nat.eq_zero_or_pos len with h0 | h0
      · have:l=[]:=List.eq_nil_of_length_eq_zero (by omega);subst this;subst h0;exact .emp _ _ _ (by simpa [maxLen] using hcm)
      · have hS:Sof w a.block:=by
          obtain ⟨p,⟨cs',h1,_⟩,_⟩:=key 0 h0;obtain ⟨h2,h3⟩:=cells_some h1;have h4:=h3 0 hz0;rw [List.getElem?_eq_getElem (by omega)] at h4;have:=World.block_lt_of_cell? w _ h4
          rwa [add_block,add_block] at this
        have hlm:((l.map (·.1)).map encA).length=len:=by simp [hl1]
        rw [← hlm];refine .sl z _ a cap (l.map (·.2)) (by omega) (by simpa [maxLen] using hcm) hS (by simp [hl1]) (fun i y v hy hv=>?_) (fun i v hv=>?_) (fun i j v u hv hu'=>?_)
        · rw [List.getElem?_map,List.getElem?_map] at hy;rw [List.getElem?_map] at hv;cases hp:l[i]? with
          | none=>rw [hp] at hv;cases hv
          | some p=>
            rw [hp] at hy hv;simp at hy hv;subst hy;subst hv;exact (hl2 i p hp).2.1
        · rw [List.getElem?_map] at hv;obtain ⟨p,hp,rfl⟩:=Option.map_eq_some_iff.1 hv;obtain ⟨⟨cs',h1,h2⟩,_,_⟩:=hl2 i p hp;have:=(cells_some h1).1;rw [← h2] at this;simpa using this
        · rw [List.getElem?_map] at hv;obtain ⟨p,hp,rfl⟩:=Option.map_eq_some_iff.1 hv;obtain ⟨⟨cs',h1,h2⟩,_,_⟩:=hl2 i p hp;obtain ⟨h3,h4⟩:=cells_some h1;have hj:j < p.2.cells.size:=(Array.getElem?_eq_some_iff.1 hu').1;have hjz:j < z:=by
            rw [← h2] at h3;simp at h3;omega
          have h5:=h4 j hjz;rw [Addr_add_add] at h5;rw [h5,← h2];simpa using hu'
    · rw [List.getElem?_map] at hb' hy;obtain ⟨p,hp,rfl⟩:=Option.map_eq_some_iff.1 hb';obtain ⟨q,hq,rfl⟩:=Option.map_eq_some_iff.1 hy;exact (hl2 i p hp).2.2 q hq
theorem rd_int {k:IntKind} (hu:P.underlying t=some (.int k)) (h:DataW.trod enc P w base spare held fuel t cs=some x):∃ n,RdC w [.int k n] cs∧x.1=.lit (.int k n)∧(Lit.int k n).wf=true:=by
 obtain ⟨n,rfl,rfl,hw⟩:=DataW.trod_int hu h;exact ⟨n,rdC_one (.int _ _),rfl,hw⟩
theorem rd_str (hu:P.underlying t=some .string) (h:DataW.trod enc P w base spare held fuel t cs=some x):∃ s:List UInt8,RdC w [.str s] cs∧x.1=.lit (.string s):=by
 obtain ⟨s,rfl,rfl,hs⟩:=DataW.trod_string hu h;refine ⟨s.data.toList,rdC_one ?_,rfl⟩;have he:(⟨s.data.toList.toArray⟩:ByteArray)=s:=by
  apply ByteArray.ext;simp
 have:=Rd.str (w:=w) (S:=Sof w) s.data.toList (by
  have hl:s.data.toList.length=s.size:=by rw [Array.length_toList];rfl
  unfold maxLen at hs;omega)
 rwa [he] at this
theorem rd_struct {i:TI} {fs:List (Nat×Nat)} (hT:TOk P t i) (hk:i.k=.struct fs) (h:DataW.trod enc P w base spare held fuel t cs=some x) :
    ∃ (xs:List (DataW H×List MemPlace)) (n:Nat),n < fuel∧x.1=.agg (xs.map (·.1))∧cs.length=P.cellsOf t∧xs.length=fs.length∧
      ∀ (i:Nat) (f:Nat×Nat),fs[i]?=some f→DataW.trod enc P w base spare held n f.2 ((cs.drop f.1).take (P.cellsOf f.2))=xs[i]?:=by
  obtain ⟨F,hF,rfl,_⟩:=hT.struct hk;obtain ⟨xs,n,hf,hx,hl,hlen,hfs⟩:=DataW.trod_struct hF h;refine ⟨xs,n,by omega,by rw [hx],hl,by simp [hlen],fun j f hj=>?_⟩;rw [List.getElem?_map] at hj;obtain ⟨g,hg,rfl⟩:=Option.map_eq_some_iff.1 hj;exact hfs j g (by simpa using hg)
theorem wf_i64 {n:Int} (h:(Lit.int .i64 n).wf=true):-9223372036854775808≤n∧n≤9223372036854775807:=bounds_i64 h
end
theorem rdv_struct {P:Program} {w W:World} {r:Reach} {base:Nat} {t:TypeId} {i:TI} {fs:List (Nat×Nat)} {x:D} {v:Value} (h:Value.okWide P W r base t v) (hT:TOk P t i) (hk:i.k=.struct fs) (hc:RdC w x.cl v.cells.toList) (hl:x=.agg x.cl) (ho:x.ok1):Rd w (Sof w) x v:=by
 obtain ⟨F,hF,_,_⟩:=hT.struct hk;unfold Value.okWide at h;rw [hF] at h;obtain ⟨cs,rfl,_,_⟩:=h;rw [hl] at hc ho ⊢;have:cs=cs.toList.toArray:=by simp
 rw [this];exact .agg _ _ ho (by simpa [Value.cells,D.cl] using hc.1) (fun j y u h1 h2=>hc.2 j y u (by simpa [D.cl] using h1) (by simpa [Value.cells] using h2))
theorem rdv_one {P:Program} {w W:World} {r:Reach} {base:Nat} {t:TypeId} {i:TI} {x:D} {v:Value} (h:Value.okWide P W r base t v) (hT:TOk P t i) (hk:i.k.agg=false) (hc:RdC w [x] v.cells.toList):Rd w (Sof w) x v:=by
 have hne:∀ cs,v≠.agg cs:=by
  rintro cs rfl;have hk2:=hT.k;unfold tkOf at hk2;unfold Value.okWide Cell.okWide Cell.ok at h;cases hu:P.underlying t with
  | none=>rw [hu] at h;simp at h
  | some d=>
   rw [hu] at h hk2;cases d <;> simp at h hk2
   all_goals first
    | (rw [← hk2] at hk;cases hk)
    | (rw [← hk2.2] at hk;cases hk)
 have hv:v.cells=#[v]:=by
  cases v <;> first | rfl | exact absurd rfl (hne _)
 rw [hv] at hc;exact hc.2 0 x v rfl rfl
section
variable {H:Type} {enc:TypeId×Value→H} {P:Program}
theorem post_of_below {f:Func} {s:ChangeSpec} {apart fresh handsOn again:Bool} {W W':World} {args:Array Value} {v:Value} {ds gs:List (DataW H)} {before pa pv:List MemPlace}
    (hW:DataW.Whole enc P f.params.toList s.vars apart W args.toList ds gs before)
    (hres:∀ (b:Nat) (sp:Nat→Bool) (hd:Bool),DataW.TrodAll enc P W' b sp hd f.resultTypes.toList (v.resultList f.resultTypes.size) (s.fn H (ds++gs)).results [])
    (hargs:∀ sp:Nat→Bool,(∀ p∈before,sp p.block=true)→DataW.TrodAll enc P W' 0 sp true f.params.toList args.toList (s.fn H (ds++gs)).args pa)
    (hvars:∀ sp:Nat→Bool,(∀ p∈before,sp p.block=true)→DataW.TrodVars enc P W' sp s.vars (s.fn H (ds++gs)).vars pv)
    (hps:before=pa++pv) (hb:Below W.heap.size W W')
    (hok:∀ (j:Nat) (t:TypeId) (r:Value),f.resultTypes[j]?=some t→(v.resultList f.resultTypes.size)[j]?=some r→Value.okWide P W' .any 0 t r) :
    s.post enc P f apart fresh handsOn again W args v W':=by
  have hlt:∀ p∈before,p.block < W.heap.size:=fun p hp=>hW.lt p hp;have hold:∀ p∈before,(fun b=>decide (b < W.heap.size)) p.block=true:=fun p hp=>by simpa using hlt p hp
  refine ⟨ds,gs,before,[],pa,pv,hW,hres _ _ _,hargs _ hold,hvars _ hold,World.keptBut_mono (fun p hp=>⟨hp,?_⟩) (hb.frame (·∈before)),fun _=>?_⟩
  · rw [hps,List.mem_append] at hp;exact Or.inr hp
  · obtain ⟨_,_,_,_,_,hz,hn⟩:=hW;refine ⟨hok,_,_,([]++pa)++pv,⟨[]++pa,pv,trodAll_append (hargs _ (fun _ _=>rfl)) (hres _ _ _),hvars _ (fun _ _=>rfl),rfl,?_,?_⟩,?_⟩
    · intro b off hp;have hin:MemPlace.cell b off∈before:=by rw [hps];simpa using hp
      rw [hb.frozen (hlt _ hin)];exact hz b off hin
    · intro ha;have:=hn ha;rw [hps] at this;simpa using this
    · intro p hp _;rw [hps];simpa using hp
theorem trodAll_stays (hl:laidOutB P=true) {W W':World} (hb:Below W.heap.size W W'):∀ {ts:List TypeId} {vs:List Value} {ds:List (DataW H)} {ps:List MemPlace} {sp:Nat→Bool},(ts.all fun t=>P.readableRec t && decide (t < P.types.size))=true→
    DataW.TrodAll enc P W 0 (fun _=>true) true ts vs ds ps→(∀ p∈ps,sp p.block=true)→(∀ p∈ps,p.block < W.heap.size)→DataW.TrodAll enc P W' 0 sp true ts vs ds ps
  | [],vs,ds,ps,sp,_,h,_,_=>by
    obtain ⟨rfl,rfl,rfl⟩:=trodAll_nil h;rfl
  | t :: ts,vs,ds,ps,sp,ht,h,hs,hlt=>by
    obtain ⟨v,vs',d,ds',p,q,rfl,rfl,rfl,h1,h2⟩:=trodAll_cons h;simp only [List.all_cons,Bool.and_eq_true,decide_eq_true_eq] at ht;exact trodAll_cons_mk (Trod_stays hl ht.1.1 ht.1.2 h1 (fun x hx=>hb.same (hlt x (by simp [hx]))) fun x hx=>hs x (by simp [hx])) (trodAll_stays hl hb ht.2 h2 (fun x hx=>hs x (by simp [hx])) fun x hx=>hlt x (by simp [hx]))
theorem calls_of_spec {f : FuncId} {fn : Func} {W : World} {vs : List Value} {ds : List D} (hfn : P.funcs[f]? = some fn) (hbody : fn.body.isSome = true) (hname : (fn.name == "runtime.NumGoroutine") = false) (h : PSpec P f (ds.map .d) (.d (.bool true))) (hr : vs.length = ds.length ∧ ∀ (i : Nat) (x : D) (v : Value), ds[i]? = some x → vs[i]? = some v → Rd W (Sof W) x v) :
    Calls P f vs.toArray W fun e W'=>e=.returned (.bool true)∧Below W.heap.size W W':=by
  have hsto:Sto W (Sof W) (fun _=>undef) (fun _=>none) 0:=⟨fun k hk=>hk,by simp,by simp,by simp,by simp,by simp,by simp⟩;have hd:=h (fun _=>none) 0 W (Sof W) (fun _=>undef) vs hsto (by simp [hr.1]) (fun i c v hc hv=>by
    rw [List.getElem?_map] at hc;obtain ⟨x,hx,rfl⟩:=Option.map_eq_some_iff.1 hc;exact .d _ _ (hr.2 i x v hx hv)) (lts_of fun i c hc=>by
      rw [List.getElem?_map] at hc;obtain ⟨x,hx,rfl⟩:=Option.map_eq_some_iff.1 hc;trivial)
  obtain ⟨b,hb⟩:=Option.isSome_iff_exists.1 hbody;have hcf:(callFunc f vs.toArray).run P W=.ok (.enter f vs.toArray) W:=by
    simp only [beq_eq_false_iff_ne,ne_eq] at hname;simp [callFunc,hfn,hb,hname]
  unfold Does at hd;rw [hcf] at hd;refine hd.mono ?_;rintro e W' ⟨v,rfl,r,o',nk',S',γ',⟨rfl,rfl,rfl⟩,hs,ht,hsr,hl⟩;refine ⟨?_,ht.os,ht.tape,ht.output,ht.size,fun k hk=>ht.kept k hk ?_⟩
  · cases hsr with
    | d _ _ hrd=>cases hrd;rfl
  · rintro ⟨t,y,hy,_⟩;cases hy
end
section
variable {H:Type} {enc:TypeId×Value→H} {w:World} {base fuel:Nat} {spare:Nat→Bool} {held:Bool} {cs:List Value} {x:DataW H×List MemPlace}
theorem cells_of {P:Program} {t:TypeId} {i:TI} (h:TOk P t i):P.cellsOf t=i.sz:=by
 have:=h.s;unfold Program.cellsOf;cases hq:P.info? t with
 | none=>rw [hq] at this;cases this
 | some q=>rw [hq] at this;simp at this;simp [this.1]
def AStr (s:Str) (d:DataW H):Prop:=d=.lit (.string s)
def AVal (v:Val) (d:DataW H):Prop:=rngV v∧szV v≤Rows.uptoBulk d
def ADlt (v:Dlt) (d:DataW H):Prop:=rngV v.value∧szV v.value+szN v.path≤Rows.uptoBulk d
theorem all2_cons {α:Type} {A:α→DataW H→Prop} {a:α} {l:List α} {es:List (DataW H)} (h:All2 A (a :: l) es):∃ y ys,es=y :: ys∧A a y∧All2 A l ys:=by
 obtain ⟨h1,h2⟩:=h;cases es with
 | nil=>simp at h1
 | cons y ys=>exact ⟨y,ys,rfl,h2 0 a y rfl rfl,by simpa using h1,fun i b z hb hz=>h2 (i+1) b z (by simpa using hb) (by simpa using hz)⟩
theorem szN_bulk:∀ {l:List Str} {es:List (DataW H)},All2 AStr l es→szN l≤Rows.uptoBulkAll es
 | [],es,_=>by simp [szN]
 | s :: l,es,h=>by
  obtain ⟨y,ys,rfl,h1,h2⟩:=all2_cons h;have:=szN_bulk h2;unfold AStr at h1;subst h1;simp only [szN,Rows.uptoBulkAll,Rows.uptoBulk];omega
theorem szVs_bulk:∀ {l:List Val} {es:List (DataW H)},All2 AVal l es→rngVs l∧szVs l≤Rows.uptoBulkAll es
 | [],es,_=>by simp [szVs,rngVs]
 | s :: l,es,h=>by
  obtain ⟨y,ys,rfl,h1,h2⟩:=all2_cons h;have:=szVs_bulk h2;simp only [szVs,rngVs,Rows.uptoBulkAll];exact ⟨⟨h1.1,this.1⟩,by have:=h1.2;omega⟩
theorem bulk_sl {α:Type} {A:α→DataW H→Prop} {l:List α} {d:DataW H} {n:Nat} (h:SlD A l d) (h0:l=[]→n=0) (h1:∀ es,All2 A l es→n≤Rows.uptoBulkAll es):n+1≤Rows.uptoBulk d:=by
 rcases h with ⟨rfl,h⟩ | ⟨es,sp,rfl,h⟩
 ·have:=h0 h;simp [Rows.uptoBulk,this]
 ·have:=h1 es h;simp only [Rows.uptoBulk];omega
theorem open_strs (h:DataW.trod enc Try.prog w base spare held fuel 22 cs=some x):∃ l:List Str,RdC w [.sl 1 (l.map .str)] cs∧SlD AStr l x.1:=
 rd_slice (z:=1) D.str AStr ((tabOk 22 _ th22).slice rfl) (cells_of (tabOk 9 _ th9)) (by decide) (fun _=>rfl) (fun _=>trivial) h fun n cs x _ h=>by
  obtain ⟨s,h1,h2⟩:=rd_str ((tabOk 9 _ th9).str rfl) h;exact ⟨s,h1,h2⟩
theorem open_val:∀ (fuel:Nat) (cs:List Value) (x:DataW H×List MemPlace),DataW.trod enc Try.prog w base spare held fuel 27 cs=some x→∃ v:Val,RdC w (valCells v) cs∧AVal v x.1:=by
 intro fuel
 induction fuel using Nat.strongRecOn with
 | _ fuel ih=>
  intro cs x h;obtain ⟨ys,n,hn,hx,hl,hyl,hf⟩:=rd_struct (tabOk 27 _ th27) rfl h
  match ys,hyl with
  | [y0,y1,y2,y3,y4],_=>
   have c1:=cells_of (tabOk 3 _ th3);have c9:=cells_of (tabOk 9 _ th9);have c25:=cells_of (tabOk 25 _ th25);have c22:=cells_of (tabOk 22 _ th22);have c27:=cells_of (tabOk 27 _ th27);have f0:=hf 0 (0,3) rfl;have f1:=hf 1 (1,3) rfl;have f2:=hf 2 (2,9) rfl;have f3:=hf 3 (3,25) rfl;have f4:=hf 4 (4,22) rfl;rw [c1] at f0 f1;rw [c9] at f2;rw [c25] at f3;rw [c22] at f4;rw [c27] at hl;obtain ⟨k,k1,k2,k3⟩:=rd_int ((tabOk 3 _ th3).int rfl) (x:=y0) f0;obtain ⟨i,i1,i2,i3⟩:=rd_int ((tabOk 3 _ th3).int rfl) (x:=y1) f1;obtain ⟨s,s1,s2⟩:=rd_str ((tabOk 9 _ th9).str rfl) (x:=y2) f2;obtain ⟨vs,v1,v2⟩:=rd_slice (z:=5) encV AVal ((tabOk 25 _ th25).slice rfl) c27 (by decide) (fun a=>by rw [encV_eq];rfl) (fun a=>by rw [encV_eq];rfl) (x:=y3) f3 fun m cs x hm h=>by
    obtain ⟨v,h1,h2⟩:=ih m (by omega) cs x h;exact ⟨v,by rw [encV_eq];exact h1,h2⟩
   obtain ⟨ns,n1,n2⟩:=open_strs (x:=y4) f4;refine ⟨.mk k i s vs ns,?_,?_⟩
   ·have:=rdC_cat (cs:=cs) (o:=0) (n:=1) k1 rfl (rdC_cat (n:=1) i1 rfl (rdC_cat (n:=1) s1 rfl (rdC_cat (n:=1) v1 rfl (rdC_cat (n:=1) n1 rfl (rdC_nil hl)))));simpa [valCells,Val.kind,Val.int,Val.text,Val.items,Val.names,encVs_map] using this
   ·have b3:rngVs vs∧szVs vs+1≤Rows.uptoBulk y3.1:=by
     refine ⟨?_,bulk_sl v2 (fun h=>by rw [h];rfl) fun es h=>(szVs_bulk h).2⟩;rcases v2 with ⟨_,rfl⟩ | ⟨es,sp,_,h⟩
     ·trivial
     ·exact (szVs_bulk h).1
    have b4:=bulk_sl n2 (n:=szN ns) (fun h=>by rw [h];rfl) fun es h=>szN_bulk h;refine ⟨⟨wf_i64 i3,b3.1⟩,?_⟩;rw [hx];simp only [List.map_cons,List.map_nil,Rows.uptoBulk,Rows.uptoBulkAll,k2,i2,s2,szV];omega
theorem open_dlt (h:DataW.trod enc Try.prog w base spare held fuel 46 cs=some x):∃ d:Dlt,RdC w (encD d).cl cs∧ADlt d x.1:=by
 obtain ⟨ys,n,hn,hx,hl,hyl,hf⟩:=rd_struct (tabOk 46 _ th46) rfl h
 match ys,hyl with
 | [y0,y1,y2,y3],_=>
  have f0:=hf 0 (0,3) rfl;have f1:=hf 1 (1,22) rfl;have f2:=hf 2 (2,27) rfl;have f3:=hf 3 (7,3) rfl;rw [cells_of (tabOk 3 _ th3)] at f0 f3;rw [cells_of (tabOk 22 _ th22)] at f1;rw [cells_of (tabOk 27 _ th27)] at f2;rw [cells_of (tabOk 46 _ th46)] at hl;obtain ⟨k,k1,k2,k3⟩:=rd_int ((tabOk 3 _ th3).int rfl) (x:=y0) f0;obtain ⟨p,p1,p2⟩:=open_strs (x:=y1) f1;obtain ⟨v,v1,v2⟩:=open_val n _ y2 f2;obtain ⟨m,m1,m2,m3⟩:=rd_int ((tabOk 3 _ th3).int rfl) (x:=y3) f3;refine ⟨⟨k,p,v,m⟩,?_,v2.1,?_⟩
  ·have:=rdC_cat (cs:=cs) (o:=0) (n:=1) k1 rfl (rdC_cat (n:=1) p1 rfl (rdC_cat (n:=5) v1 rfl (rdC_cat (n:=1) m1 rfl (rdC_nil hl))));simpa [encD,D.cl,valCells] using this
  ·have b1:=bulk_sl p2 (n:=szN p) (fun h=>by rw [h];rfl) fun es h=>szN_bulk h;have b2:=v2.2;rw [hx];simp only [List.map_cons,List.map_nil,Rows.uptoBulk,Rows.uptoBulkAll,k2,m2];omega
theorem open_dlts (h:DataW.trod enc Try.prog w base spare held fuel 28 cs=some x):∃ l:List Dlt,RdC w [.sl 8 (l.map encD)] cs∧SlD ADlt l x.1:=
 rd_slice (z:=8) encD ADlt ((tabOk 28 _ th28).slice rfl) (cells_of (tabOk 46 _ th46)) (by decide) (fun _=>rfl) (fun _=>rfl) h fun n cs x _ h=>open_dlt h
def szDs:List Dlt→Nat
 | []=>0
 | d :: r=>szV d.value+szN d.path+szDs r
theorem szDs_bulk:∀ {l:List Dlt} {es:List (DataW H)},All2 ADlt l es→szDs l≤Rows.uptoBulkAll es∧∀ d∈l,rngV d.value
 | [],es,_=>by simp [szDs]
 | s :: l,es,h=>by
  obtain ⟨y,ys,rfl,h1,h2⟩:=all2_cons h;have:=szDs_bulk h2;simp only [szDs,Rows.uptoBulkAll];refine ⟨by have:=h1.2;omega,fun d hd=>?_⟩;rcases List.mem_cons.1 hd with rfl | hd
  ·exact h1.1
  ·exact this.2 d hd
theorem szDs_mem {l:List Dlt} {d:Dlt} (h:d∈l):szV d.value+szN d.path≤szDs l:=by
 induction l with
 | nil=>cases h
 | cons a l ih=>
  simp only [szDs];rcases List.mem_cons.1 h with rfl | h
  ·omega
  ·have:=ih h;omega
theorem dlts_all {l:List Dlt} {d:DataW H} (h:SlD ADlt l d):szDs l+1≤Rows.uptoBulk d∧∀ x∈l,rngV x.value:=by
 refine ⟨bulk_sl h (fun h=>by rw [h];rfl) fun es h=>(szDs_bulk h).1,?_⟩;rcases h with ⟨_,rfl⟩ | ⟨es,sp,_,h⟩
 ·simp
 ·exact (szDs_bulk h).2
def I64 (n:Int):Prop:=-9223372036854775808≤n∧n≤9223372036854775807
structure AEtr (e:Etr) (d:DataW H):Prop where
 rt:I64 e.term
 rk:I64 e.kind
 rs:I64 e.session
 rn:I64 e.number
 ri:rngV e.id
 rd:rngV e.doc
 rl:∀ x∈e.deltas,rngV x.value
 sz:szV e.id+szV e.doc+szDs e.deltas+e.coll.length+e.to.length+1≤Rows.uptoBulk d
structure AFlt (f:Flt) (d:DataW H):Prop where
 rk:I64 f.kinds
 sz:f.coll.length+szN f.path≤Rows.uptoBulk d
end
end Go.Proofs.Ytpkcbdhjnnnkbaa.Abs



namespace Go.Proofs.Ytpkcbdhjnnnkbaa.Abs
open Go
def b8 (k:Int):UInt8:=UInt8.ofNat (k % 256).toNat
def txtC (t:Str):Str:=grp (u64 t.length)++t
mutual
def codV:Val→Str
 | .mk k i t xs ns=>b8 k :: (if k=1 then [] else if k=2 then [b8 i] else if k=3 then grp (zigN i) else if k=4∨k=5 then txtC t else grp (u64 xs.length)++codVs (decide (k=7)) xs ns)
def codVs (doc:Bool):List Val→List Str→Str
 | [],_=>[]
 | x :: xs,ns=>(if doc=true then txtC (ns.headD []) else [])++codV x++codVs doc xs ns.tail
end
theorem may7k {k i:Int} {t:Str} {xs:List Val} {ns:List Str} (h:mayV (.mk k i t xs ns)=true) (hk:k=7):ns.length=xs.length:=by subst hk;exact may7 h
theorem checkD_len {l:List Dlt} (h:checkD l=0):l.length≤64:=by
 unfold checkD at h;split at h
 ·cases h
 ·omega
theorem rv {P:Program} {f:FuncId} {v:Val} {c:SV} {e z:Nat} {xs:List D} (h:RSpec P f [c,.d (encV v)] e z xs):RSpec P f [c,.d (.agg (valCells v))] e z xs:=encV_eq v ▸ h
def hsB (k:Int) (bit:Int):Bool:=decide (bitsOf .and .i64 (if fieldsV k < 0 then 0 else fieldsV k) bit≠0)
structure EOk (e:Etr):Prop where
 k:1≤e.kind∧e.kind≤7
 t:0≤e.term∧e.term≤1099511627776
 s:0≤e.session∧e.session≤255
 n:0≤e.number∧e.number≤1099511627776
 c:(hsB e.kind 1=true→e.coll.length≤32)∧(¬ hsB e.kind 1=true→e.coll=[])
 o:(hsB e.kind 2=true→e.to.length≤32)∧(¬ hsB e.kind 2=true→e.to=[])
 i:(hsB e.kind 4=true→checkV e.id=0)∧(¬ hsB e.kind 4=true→noneV e.id=true)
 d:(hsB e.kind 8=true→checkV e.doc=0)∧(¬ hsB e.kind 8=true→noneV e.doc=true)
 l:(hsB e.kind 16=true→checkD e.deltas=0)∧(¬ hsB e.kind 16=true→e.deltas=[])
structure OkF (f:Flt):Prop where
 lo:-9223372036854775808≤f.kinds
 hi:f.kinds≤9223372036854775807
theorem o_ia_G {P:Program} {Θ:Tab} {K:SV→(Nat→Option AO)→Nat→Prop} {sl:Nat→SV} {o:Nat→Option AO} {nk:Nat} {x ix:Operand} {t e:Nat} {α:Type} {i j:TI} {z:Nat} {xs:List α} {g:α→D} {k:IntKind} {m:Nat} (d0:α) (hx:ev sl x=.d (.sl z (xs.map g))) (hy:ev sl ix=.d (.int k (m:Int))) (hi:Θ t=some i) (hk:i.k=.slice e) (hj:Θ e=some j) (hz:z=j.sz) (hlt:m < xs.length) (h:K (.el (g (xs.getD m d0))) o nk):vOp P Θ (.indexAddr t x ix) ⟨sl,o,nk⟩ K:=o_ia_mapG d0 hx hy hi hk hj hz hlt h
instance:Inhabited Dlt:=⟨⟨0,[],zeroV,0⟩⟩
mutual
def nodesN:Val→Nat→Nat
 | .mk _ _ _ xs ns,d=>if 40 < d then 1048576 else nodesL xs d (1+ns.length)
def nodesL:List Val→Nat→Nat→Nat
 | [],_,n=>n
 | x :: xs,d,n=>if n < 65536 then nodesL xs d (n+nodesN x (d+1)) else n
end
mutual
theorem nodesN_le:∀ (v:Val) (d:Nat),nodesN v d≤1048576 * szV v
 | .mk k i t xs ns,d=>by
  have h1:=nodesL_le xs d (1+ns.length);have h2:=szN_len ns;simp only [nodesN,szV];split <;> omega
theorem nodesL_le:∀ (xs:List Val) (d n:Nat),nodesL xs d n≤n+1048576 * szVs xs
 | [],_,n=>by simp [nodesL,szVs]
 | x :: xs,d,n=>by
  have h1:=nodesN_le x (d+1);have h2:=nodesL_le xs d (n+nodesN x (d+1));simp only [nodesL,szVs];split <;> omega
end
theorem nodesL_at {xs:List Val} {i d n:Nat} (h:i < xs.length) (hn:n < 65536):nodesL (xs.drop i) d n=nodesL (xs.drop (i+1)) d (n+nodesN (xs[i]'h) (d+1)):=by
 rw [List.drop_eq_getElem_cons h,nodesL,if_pos hn]
theorem nodesL_full {xs:List Val} {i d n:Nat} (hi:i≤xs.length) (h:¬ (i < xs.length∧n < 65536)):nodesL (xs.drop i) d n=n:=by
 by_cases hx:i < xs.length
 ·rw [List.drop_eq_getElem_cons hx,nodesL,if_neg (by omega)]
 ·have e:xs.drop i=[]:=List.drop_eq_nil_of_le (by omega);rw [e,nodesL]
theorem wr_arg {P:Program} {f:FuncId} {x:SV} {m:Int} {c:Nat} {r:SV} (h:PSpec P f [x,.d (.int .i64 (c:Int))] r) (e:m=(c:Int)):PSpec P f [x,.d (.int .i64 m)] r:=by rw [e];exact h
theorem ltN (k n:Nat):decide ((k:Int) < (n:Int))=decide (k < n):=by
 rw [Bool.eq_iff_iff];simp only [decide_eq_true_eq];omega
theorem lt50 (n:Nat):decide ((50:Int) < (n:Int))=decide (50 < n):=ltN 50 n
def largeV (v:Val):Bool:=decide (3000 < nodesN v 0)
def largeD (l:List Dlt):Bool:=(l.take 70).any (fun d=>largeV d.value || decide (50 < d.path.length)) || decide (100 < l.length)
theorem szVs_take:∀ (xs:List Val) (i:Nat),szVs (xs.take i)≤szVs xs
 | [],i=>by simp [szVs]
 | x :: xs,0=>by simp [szVs]
 | x :: xs,i+1=>by
  have:=szVs_take xs i;simp only [List.take_succ_cons,szVs];omega
theorem szVs_snoc:∀ {xs:List Val} {i:Nat} (h:i < xs.length),szVs (xs.take (i+1))=szVs (xs.take i)+szV (xs[i]'h)
 | x :: xs,0,_=>by simp [szVs]
 | x :: xs,i+1,h=>by
  have:=szVs_snoc (xs:=xs) (i:=i) (by simpa using h);simp only [List.take_succ_cons,szVs,this,List.getElem_cons_succ];omega
theorem take70 {l:List Dlt} {p:Dlt→Bool} {i:Nat} (hi:i≤l.length) (h:∀ (j:Nat) (hj:j < l.length),j < i→p l[j]=false) (he:¬ (i < l.length∧i < 70)):(l.take 70).any p=false:=by
 rw [List.any_eq_false];intro x hx;obtain ⟨j,hj,rfl⟩:=List.mem_iff_getElem.1 hx;rw [List.getElem_take];simp at hj;rw [h j (by omega) (by omega)];simp
theorem take70t {l:List Dlt} {p:Dlt→Bool} {i:Nat} (hi:i < l.length) (h7:i < 70) (hp:p (l[i]'hi)=true):(l.take 70).any p=true:=
 List.any_eq_true.2 ⟨l[i],List.mem_iff_getElem.2 ⟨i,by simp;omega,by rw [List.getElem_take]⟩,hp⟩
theorem fn22:FnOk Try.prog 22 35 [4] (bodyOf Try.f22):=⟨Try.f22,Try.func22,by kernel_rfl,by decide,by kernel_rfl,by kernel_rfl⟩
theorem s22A (m:Nat):∀ (v:Val) (d:Nat),SizeOf.sizeOf v < m→szV v≤1099511627776→d≤41→PSpec Try.prog 22 [.d (encV v),.d (.int .i64 (d:Int))] (.d (.int .i64 (nodesN v d:Nat))):=by
 induction m with
 | zero=>intros;omega
 | succ m ih=>
  rintro ⟨kd,it,tx,xs,ns⟩ d hv hsz hd;have hsz2:1+tx.length+szVs xs+szN ns≤1099511627776:=hsz;have hxl:=szVs_len xs;have hnl:=szN_len ns;have hln:=encVs_length xs;refine PSpec.of fn22 (by simp) fun o nk=>?_;refine wr ?_;refine u_step (g_box rfl fun o2 hb2 hk2=>?_);refine ua ?_;refine u_nil ?_;refine WP.seq fun K3 hK3=>?_;refine wr ?_;refine um ?_;refine ub ?_;refine u_nil ?_;refine wc (fun hc5=>?_) (fun hc5=>?_) <;> try simp only [Q0,Q1,Q2,Q3,Q4,Q5,Q6,Q7,Q8,ge_iff_le,gt_iff_lt] at hc5
  ·
   refine wr (ua (u_nil (WP.ret ?_)));refine ret_ok rfl ?_ (by omega) (fun t ht=>(hk2 t (by omega)));clear hK3;refine congrArg (D.int .i64) ?_;have hq:40 < d:=by have:=hc5;(try simp at this);omega
   rw [nodesN,if_pos hq];rfl
  ·
   have hd40:¬ 40 < d:=by have:=hc5;(try simp at this);omega
   refine WP.skip (hK3 _ (wr (uf th27 th22 hb2 ?_)));refine ul th22 hb2 ?_;refine un th22 ?_;refine ub (ua (u_nil (WP.seq fun K8 hK8=>?_)));refine wr (ua (u_nil (WP.block ?_)));refine WP.loopL (ι:=Nat×Nat) (fun ⟨i,n⟩=>⟨al [(1,.d (.int .i64 (d:Int))),(2,.loc nk 0),(5,.d (.int .i64 (n:Nat))),(6,.d (.int .i64 i))],o2,(nk+1)⟩) (fun ⟨i,n⟩=>i≤xs.length∧n≤1+ns.length+1048576 * szVs (xs.take i)∧nodesL (xs.drop i) d n=nodesL xs d (1+ns.length)) (fun ⟨i,n⟩=>xs.length - i) (fun ⟨i,n⟩ hA=>?_) ⟨0,1+ns.length⟩ ?_ ?_
   ·
    obtain ⟨hle,hnb,hnn⟩:=hA;refine WP.seq fun K10 hK10=>?_;refine wr (um (uf th27 th25 hb2 ?_));refine ul th25 hb2 ?_;refine un th25 ?_;refine ub (um ?_);apply gT
    ·rfl
    ·intro hg;exact pm
    apply gT
    ·rfl
    ·intro hg;try simp only [hg,ct,Bt]
     exact pb
    refine uA ?_;refine u_nil ?_;refine wc (fun hc12=>?_) (fun hc12=>?_) <;> try simp only [Q0,Q1,Q2,Q3,Q4,Q5,Q6,Q7,Q8,ge_iff_le,gt_iff_lt] at hc12
    ·
     have hin2:i < xs.length∧n < 65536:=by have:=hc12;(try simp [encVs_length] at this);omega
     refine WP.skip (hK10 _ (WP.seq fun K13 hK13=>?_));refine WP.block (WP.reg tabOk rfl ?_);refine um (uf th27 th25 hb2 ?_);refine ul th25 hb2 ?_;refine um ?_
     first | refine u_step (o_ia_map rfl rfl th25 rfl th27 rfl (by omega) ?_) | refine u_step (o_ia_vs rfl rfl th25 rfl th27 rfl (by omega) ?_)
     refine uL th27 ?_;refine um (ub ?_);refine u_step (o_pcall (wr_arg (c:=d+1) (ih xs[i] (d+1) (by exact items_lt' (by omega) hv) (by have:=szVs_get (xs:=xs) (j:=i) (by omega);omega) (by omega)) (by rw [wrap_i64 (by omega) (by omega)];omega)) rfl ?_);refine ub (ua (u_nil (hK13 _ (WP.reg tabOk rfl ?_))));refine um (ub (ua (u_nil ?_)));have hb1:=nodesN_le xs[i] (d+1);have hb2:=szVs_snoc (xs:=xs) (i:=i) (by omega);have hb3:=szVs_take xs (i+1);refine ⟨⟨i+1,n+nodesN xs[i] (d+1)⟩,⟨by omega,by omega,?_⟩,by simp only;omega,?_⟩
     ·rw [← hnn,nodesL_at hin2.1 hin2.2]
     ·refine Le.al ?_;simp only [List.forall_mem_cons];exact ⟨rfl,rfl,add_w rfl (by omega),cnt (by omega),by simp⟩
    ·
     have hin2:¬ (i < xs.length∧n < 65536):=by have:=hc12;(try simp [encVs_length] at this);omega
     refine WP.exit ?_;refine hK8 _ (wr (um (ua (u_nil (WP.ret ?_)))));refine ret_ok rfl ?_ (by omega) (fun t ht=>(hk2 t (by omega)));clear hK3 hK8 hK10;refine congrArg (D.int .i64) ?_;rw [nodesN,if_neg hd40,← hnn,nodesL_full hle hin2]
   ·
    exact ⟨by omega,by omega,rfl⟩
   ·
    refine Le.al ?_;simp only [List.forall_mem_cons];refine ⟨rfl,rfl,?_,rfl,by simp⟩;have hw:IntKind.i64.wrap (1+((ns.map D.str).length:Int))=((1+ns.length:Nat):Int):=by rw [List.length_map,wrap_i64 (by omega) (by omega)];omega
    rw [← hw];rfl
theorem s22 (v:Val) (d:Nat) (hsz:szV v≤1099511627776) (hd:d≤41):PSpec Try.prog 22 [.d (encV v),.d (.int .i64 (d:Int))] (.d (.int .i64 (nodesN v d:Nat))):=s22A _ v d (Nat.lt_succ_self _) hsz hd
theorem fn9:FnOk Try.prog 9 6 [2] (bodyOf Try.f9):=⟨Try.f9,Try.func9,by kernel_rfl,by decide,by kernel_rfl,by kernel_rfl⟩
theorem s9 (v:Val) (hsz:szV v≤1099511627776):PSpec Try.prog 9 [.d (encV v)] (.d (.bool (largeV v))):=by
 obtain ⟨kd,it,tx,xs,ns⟩:=v;refine PSpec.of fn9 (by simp) fun o nk=>?_;refine wr ?_;refine u_step (g_box rfl fun o2 hb2 hk2=>?_);refine ua (u_nil (wr (ug th27 hb2 ?_)));refine u_step (o_pcall (s22 (.mk kd it tx xs ns) 0 hsz (by omega)) rfl ?_);refine ub (ua (u_nil (WP.ret ?_)));refine ret_ok rfl ?_ (by omega) (fun t ht=>(hk2 t (by omega)));refine congrArg D.bool ?_;unfold largeV;rw [Bool.eq_iff_iff];simp only [decide_eq_true_eq];omega
theorem fn8:FnOk Try.prog 8 32 [2] (bodyOf Try.f8):=⟨Try.f8,Try.func8,by kernel_rfl,by decide,by kernel_rfl,by kernel_rfl⟩
theorem s8 (l:List Dlt) (hl:∀ d∈l,szV d.value≤1099511627776):PSpec Try.prog 8 [.d (.sl 8 (l.map encD))] (.d (.bool (largeD l))):=by
 refine PSpec.bd fun hbd=>?_;have hx:l.length≤9223372036854775807:=by simpa using hbd.1.1
 refine PSpec.of fn8 (by simp) fun o nk=>?_;refine wr (ua (u_nil (WP.seq fun K2 hK2=>?_)));refine wr (ua (u_nil (WP.block ?_)));refine WP.loopL (ι:=Nat) (fun i=>⟨al [(0,.d (.sl 8 (l.map encD))),(3,.d (.int .i64 i))],o,nk⟩) (fun i=>i≤l.length∧∀ (j:Nat) (hj:j < l.length),j < i→(largeV l[j].value || decide (50 < l[j].path.length))=false) (fun i=>l.length - i) (fun i hA=>?_) 0 ?_ ?_
 ·
  obtain ⟨hle_i,hin_i⟩:=hA;refine WP.seq fun K4 hK4=>?_;refine wr (um (um (un th28 ?_)));refine ub (um ?_);apply gT
  ·rfl
  ·intro hg;exact pm
  apply gT
  ·rfl
  ·intro hg;try simp only [hg,ct,Bt]
   exact pb
  refine uA ?_;refine u_nil ?_;refine wc (fun hc6=>?_) (fun hc6=>?_) <;> try simp only [Q0,Q1,Q2,Q3,Q4,Q5,Q6,Q7,Q8,ge_iff_le,gt_iff_lt] at hc6
  ·
   have hin2:i < l.length∧i < 70:=by have:=hc6;(try simp at this);omega
   have hil:=hin2.1;have hgd:l.getD i default=l[i]:=by simp [hil]
   refine WP.skip (hK4 _ (WP.seq fun K7 hK7=>?_));refine WP.block (wr (um (um ?_)));refine u_step (o_ia_G (xs:=l) default rfl rfl th28 rfl th46 rfl hin2.1 ?_);refine uF th46 th27 ?_;refine uL th27 ?_;refine u_step (o_pcall (pv (v:=(l.getD i default).value) (s9 _ (by rw [hgd];exact hl _ (List.getElem_mem _)))) rfl ?_);refine um ?_;apply gF
   ·rfl
   ·intro hg;exact pm
   apply gF
   ·rfl
   ·intro hg;exact pm
   apply gF
   ·rfl
   ·intro hg;try simp only [hg,ct,Bt]
    refine o_ia_G (xs:=l) default rfl rfl th28 rfl th46 rfl hin2.1 ⟨rfl,rfl,rfl⟩
   apply gF
   ·rfl
   ·intro hg;try simp only [hg,ct,Bt]
    exact pF th46 th22
   apply gF
   ·rfl
   ·intro hg;try simp only [hg,ct,Bt]
    exact pL th22
   apply gF
   ·rfl
   ·intro hg;try simp only [hg,ct,Bt]
    exact pn th22
   apply gF
   ·rfl
   ·intro hg;try simp only [hg,ct,Bt]
    exact pb
   refine uO ?_;refine u_nil ?_;refine wc (fun hc9=>?_) (fun hc9=>?_) <;> try simp only [Q0,Q1,Q2,Q3,Q4,Q5,Q6,Q7,Q8,ge_iff_le,gt_iff_lt] at hc9
   ·
    refine wr (ua (u_nil (WP.ret ?_)));refine ret_ok rfl ?_ (by omega) (fun _ _=>rfl);clear hK2 hK4 hK7;refine congrArg D.bool ?_;have hlq:=hc9;unfold largeD;rw [take70t (p:=fun d=>largeV d.value || decide (50 < d.path.length)) hin2.1 hin2.2 (by rw [hgd] at hlq;simpa only [List.length_map,lt50] using hlq)];rfl
   ·
    refine WP.skip (hK7 _ (WP.reg tabOk rfl ?_));refine um (ub (ua (u_nil ?_)));refine ⟨i+1,⟨by omega,?_⟩,by omega,?_⟩
    ·intro j hj h1;by_cases h2:j=i
     ·subst h2;have hlq:=hc9;rw [hgd] at hlq;simpa only [List.length_map,lt50] using hlq
     ·exact hin_i j hj (by omega)
    ·refine Le.al ?_;simp only [List.forall_mem_cons];exact ⟨rfl,cnt (by omega),by simp⟩
  ·
   have hin2:¬ (i < l.length∧i < 70):=by have:=hc6;(try simp at this);omega
   refine WP.exit ?_;refine hK2 _ (wr (um (un th28 ?_)));refine ub (ua (u_nil (WP.ret ?_)));refine ret_ok rfl ?_ (by omega) (fun _ _=>rfl);clear hK2 hK4;refine congrArg D.bool ?_;unfold largeD;rw [take70 (p:=fun d=>largeV d.value || decide (50 < d.path.length)) hle_i hin_i hin2,Bool.eq_iff_iff];simp;omega
 ·
  simp
 ·
  refine Le.al ?_;simp only [List.forall_mem_cons];exact ⟨rfl,rfl,by simp⟩
section
variable {P:Program} {Θ:Tab} {K:SV→(Nat→Option AO)→Nat→Prop} {sl:Nat→SV} {o:Nat→Option AO} {nk:Nat} {x y ix:Operand} {t e:Nat}
theorem o_ia_rowR {i j:TI} {q z m e2:Nat} {k:IntKind} {xs:List D} (hx:ev sl x=.row q) (hy:ev sl ix=.d (.int k (m:Int))) (hi:Θ t=some i) (hk:i.k=.slice e) (hj:Θ e=some j) (hz:z=j.sz) (ho:o q=some (.row e2 z xs)) (hm:m < xs.length) (h:K (.rel q m 0) o nk):vOp P Θ (.indexAddr t x ix) ⟨sl,o,nk⟩ K:=by
 refine .inl ?_;show ixOp Θ o t (ev sl x) (ev sl ix) (fun v=>K v o nk);rw [hx,hy];subst hz;exact ⟨i,e,j,k,m,hi,.inl hk,hj,rfl,by omega,hk,e2,xs,ho,by simpa using hm,by simpa using h⟩
theorem g_stRel {i:TI} {q j z e2:Nat} {xs cs ys:List D} (hx:ev sl x=.rel q j 0) (hy:ev sl y=.d (.agg ys)) (hi:Θ t=some i) (ho:o q=some (.row e2 z xs)) (hj:xs[j]?=some (.agg cs)) (hl:ys.length=i.sz) (hc:cs.length=i.sz) (hf:ys.all D.leaf=true)
    (h:∀ o1,o1 q=some (.row e2 z (xs.set j (.agg ys)))→(∀ u,u≠q→o1 u=o u)→K .any o1 nk):vOp P Θ (.store t x y) ⟨sl,o,nk⟩ K:=by
  refine .inr (.inr ⟨(.any,[(q,some (.row e2 z (xs.take j++[.agg ys]++xs.drop (j+1))))],nk),nW_of0 ?_,?_⟩)
  · have ha:allD (ys.map SV.d)=some ys:=by
      clear hy hl hf h
      induction ys with
      | nil=>rfl
      | cons y ys ih=>simp [allD,ih]
    simp only [nW0,hi,hx,hy,ho,hj,SV.cells,ha,hl,if_true];simp only [D.put];rw [if_pos ⟨by omega,hf⟩];simp only [List.take_zero,List.nil_append,Nat.zero_add];rw [List.drop_of_length_le (by omega),List.append_nil]
  · have hlt:j < xs.length:=(List.getElem?_eq_some_iff.1 hj).1;have e:xs.take j++[D.agg ys]++xs.drop (j+1)=xs.set j (.agg ys):=by
      rw [List.set_eq_take_append_cons_drop,if_pos hlt];simp
    rw [e];exact h _ (upd_same _ _ _) fun u hu=>upd_ne _ _ hu
theorem o_clip {i j:TI} {z:Nat} {xs:List D} {hi2 mx:Operand} (hx:ev sl x=.d (.sl z xs)) (hh:ev sl hi2=.d (.int .i64 xs.length)) (hm:ev sl mx=.d (.int .i64 xs.length)) (hi:Θ t=some i) (hk:i.k=.slice e) (hj:Θ e=some j) (hz:z=j.sz) (h:K (.dx z xs) o nk):vOp P Θ (.slice t x none (some hi2) (some mx)) ⟨sl,o,nk⟩ K:=by
 refine .inr (.inl ⟨.dx z xs,?_,h⟩);subst hz;simp only [nQ,hi,hk,hj,hx,viewOf,Option.map_some,Option.map_none,hh,hm];have hb:bnd xs.length (SV.d (D.int .i64 (xs.length:Int)))=some xs.length:=by simp [bnd]
 delta vbnd
 simp only [hb,Option.map_some];simp [hb]
theorem w_apxs {i j:TI} {l xs ys:List D} {z:Nat} (hx:ev sl x=.dx z xs) (hy:ev sl y=.d (.sl z ys)) (hi:Θ t=some i) (hk:i.k=.slice e) (hj:Θ e=some j) (hz:j.z=some l) (hl:l.length=j.sz) (hpos:0 < j.sz) (hne:ys≠[]) (h63:xs.length+ys.length≤9223372036854775807) (hby:(xs.length+ys.length) * j.bys≤140737488355328)
    (h:K (.row nk) (upd o nk (some (.row e j.sz (xs++ys)))) (nk+1)) (hzD:(zD j).isSome=true:=by rfl) (hzz:z=j.sz:=by rfl):vOp P Θ (.call { callee:=.builtin .append,args:=#[x,y],argTypes:=#[t,t] }) ⟨sl,o,nk⟩ K:=by
  refine .inr (.inr ⟨(.row nk,[(nk,some (.row e j.sz (xs++ys)))],nk+1),nW_of0 ?_,h⟩);obtain ⟨zz,hzz2⟩:=Option.isSome_iff_exists.1 hzD;subst hzz;have hs:srcN o j.sz (.d (.sl j.sz ys))=some ys:=by simp [srcN,viewOf,srcOf]
  have hzl:zLen j=true:=by simp [zLen,hz,hl]
  cases ys with
  | nil=>exact absurd rfl hne
  | cons y0 ys=>
    simp only [nW0,hi,hk,hj,hzz2,hx,hy,if_true,hs,hpos,hzl,and_self];rw [if_pos ⟨h63,hby⟩]
theorem g_apxs {i j:TI} {l xs ys:List D} {z:Nat} (hx:ev sl x=.dx z xs) (hy:ev sl y=.d (.sl z ys)) (hi:Θ t=some i) (hk:i.k=.slice e) (hj:Θ e=some j) (hz:j.z=some l) (hl:l.length=j.sz) (hpos:0 < j.sz) (hne:ys≠[]) (h63:xs.length+ys.length≤9223372036854775807) (hby:(xs.length+ys.length) * j.bys≤140737488355328)
    (h:∀ o1,o1 nk=some (.row e j.sz (xs++ys))→(∀ u,u≠nk→o1 u=o u)→K (.row nk) o1 (nk+1)) (hzD:(zD j).isSome=true:=by rfl) (hzz:z=j.sz:=by rfl):vOp P Θ (.call { callee:=.builtin .append,args:=#[x,y],argTypes:=#[t,t] }) ⟨sl,o,nk⟩ K:=
  w_apxs hx hy hi hk hj hz hl hpos hne h63 hby (h _ (upd_same _ _ _) fun u hu=>upd_ne _ _ hu) hzD hzz
end
def swapV (v:Val) (j:Nat) (x:Val):Val:=.mk v.kind v.int v.text (v.items.set j x) v.names
def growV (v:Val) (s:Str) (x:Val):Val:=.mk v.kind v.int v.text (v.items++[x]) (if v.kind=7 then v.names++[s] else v.names)
theorem encVs_set {xs:List Val} {j:Nat} {x:Val}:(encVs xs).set j (encV x)=encVs (xs.set j x):=by
 rw [encVs_map,encVs_map,List.map_set]
theorem fn112:FnOkC Try.prog 112 2 [.cell 0 27] (bodyOf Try.f112):=⟨Try.f112,Try.func112,by kernel_rfl,by decide,by kernel_rfl,by kernel_rfl⟩
theorem s112:PSpec Try.prog 112 [] (.d (.agg [.int .i64 1,.int .i64 0,.str [],.nil,.nil])):=by
 refine PSpec.ofC1 tabOk fn112 (by simp) fun o nk=>?_;refine wr ?_;refine u_step (g_alloc th27 rfl fun o2 hb2 hk2=>?_);refine u_nil (wr ?_);refine u_step (o_bu rfl th27 rfl rfl ?_);refine u_step0 (g_sta rfl rfl th27 rfl hb2 (by first | (simp;done) | (simp [D.leaves,D.width,valCells];done) | decide) fun o4 hb4 hk4=>?_);refine u_nil (WP.ret ?_);refine retC1_ok (resis_agg rfl th27 rfl hb4 rfl rfl rfl) ?_ (by omega) (fun t ht=>(hk4 t (by omega)).trans ((hk2 t (by omega))));rfl
theorem fn114:FnOk Try.prog 114 8 [2] (bodyOf Try.f114):=⟨Try.f114,Try.func114,by kernel_rfl,by decide,by kernel_rfl,by kernel_rfl⟩
theorem s114 (ys:List D) (hsz:ys.length≤1099511627776):DSpec Try.prog 114 [.d (.sl 5 ys)] 27 5 (ys):=by
 refine DSpec.of fn114 (by simp) fun o nk=>?_;refine wr ?_;refine ua ?_;refine u_nil ?_;refine WP.seq fun K2 hK2=>?_;refine wr ?_;refine um ?_;refine u_step (o_eqnil rfl rfl th25 rfl fun nb4 hnb4=>?_);refine u_nil ?_;refine wc (fun hc5=>?_) (fun hc5=>?_) <;> try simp only [Q0,Q1,Q2,Q3,Q4,Q5,Q6,Q7,Q8,ge_iff_le,gt_iff_lt] at hc5
 ·
  refine wr (ua (u_nil (WP.ret ?_)));refine dnil_ok rfl ?_ (by omega) (fun _ _=>rfl);exact hnb4 hc5
 ·
  refine WP.skip (hK2 _ (wr ?_));refine u_step (g_bs0 th25 rfl th27 rfl rfl (by decide) fun o8 hb8 hk8=>?_);refine um ?_;refine u_step (g_ap rfl rfl th25 rfl th27 rfl rfl (by decide) rfl hb8 (by simp only [List.length_nil];omega) (by simp only [List.length_nil];omega) fun o9 hb9 hk9=>?_);refine uS (u_nil (WP.ret ?_));refine drow_ok rfl (by omega) (by omega) ?_ (fun t ht=>(hk9 t (by omega) (by omega)).trans ((hk8 t (by omega))));simpa using hb9
theorem s114r (ys:List D) (hne:ys≠[]) (hsz:ys.length≤1099511627776):RSpec Try.prog 114 [.d (.sl 5 ys)] 27 5 (ys):=by
 refine RSpec.of fn114 (by simp) fun o nk=>?_;refine wr ?_;refine ua ?_;refine u_nil ?_;refine WP.seq fun K2 hK2=>?_;refine wr ?_;refine um ?_;refine u_step (o_eqnil rfl rfl th25 rfl fun nb4 hnb4=>?_);refine u_nil ?_;refine wc (fun hc5=>?_) (fun hc5=>?_) <;> try simp only [Q0,Q1,Q2,Q3,Q4,Q5,Q6,Q7,Q8,ge_iff_le,gt_iff_lt] at hc5
 ·
  exact absurd (hnb4 hc5) hne
 ·
  refine WP.skip (hK2 _ (wr ?_));refine u_step (g_bs0 th25 rfl th27 rfl rfl (by decide) fun o7 hb7 hk7=>?_);refine um ?_;refine u_step (g_ap rfl rfl th25 rfl th27 rfl rfl (by decide) rfl hb7 (by simp only [List.length_nil];omega) (by simp only [List.length_nil];omega) fun o8 hb8 hk8=>?_);refine uS (u_nil (WP.ret ?_));refine rrow_okx rfl (by omega) (by omega) hb8 (fun t ht=>(hk8 t (by omega) (by omega)).trans ((hk7 t (by omega)))) ?_;simp
theorem encVs_app1 (xs:List Val) (x:Val):encVs (xs++[x])=encVs xs++[encV x]:=by simp [encVs_map]
theorem growV_yes {k i:Int} {t:Str} {xs:List Val} {ns:List Str} {s:Str} {x:Val} (h:k=7):D.agg [.int .i64 k,.int .i64 i,.str t,.sl 5 (encVs xs++[encV x]),.sl 1 (ns.map D.str++[D.str s])]=encV (growV (.mk k i t xs ns) s x):=by
 simp [growV,Val.kind,Val.int,Val.text,Val.items,Val.names,h,encV,encVs_app1]
theorem growV_no {k i:Int} {t:Str} {xs:List Val} {ns:List Str} {s:Str} {x:Val} (h:¬ k=7):D.agg [.int .i64 k,.int .i64 i,.str t,.sl 5 (encVs xs++[encV x]),.sl 1 (ns.map D.str)]=encV (growV (.mk k i t xs ns) s x):=by
 simp [growV,Val.kind,Val.int,Val.text,Val.items,Val.names,h,encV,encVs_app1]
theorem fn127:FnOk Try.prog 127 9 [2] (bodyOf Try.f127):=⟨Try.f127,Try.func127,by kernel_rfl,by decide,by kernel_rfl,by kernel_rfl⟩
theorem s127 (xs:List D):PSpec Try.prog 127 [.d (.sl 5 xs)] (.dx 5 xs):=by
 refine fun o nk=>Spec.pure (fun _=>trivial) rfl (Spec.of_body fn127 (by simp) ?_);refine wr (ua (u_nil (wr (um (um (un th25 ?_))))));refine um (un th25 ?_);refine u_step (o_clip rfl rfl rfl th25 rfl th27 rfl ?_);refine u_step (o_assignV (v:=.dx _ _) rfl ?_);refine u_nil (WP.ret ?_);exact ⟨rfl,Nat.le_refl _,fun _ _=>rfl⟩
theorem fn128:FnOk Try.prog 128 9 [2] (bodyOf Try.f128):=⟨Try.f128,Try.func128,by kernel_rfl,by decide,by kernel_rfl,by kernel_rfl⟩
theorem s128 (xs:List D):PSpec Try.prog 128 [.d (.sl 1 xs)] (.dx 1 xs):=by
 refine fun o nk=>Spec.pure (fun _=>trivial) rfl (Spec.of_body fn128 (by simp) ?_);refine wr (ua (u_nil (wr (um (um (un th22 ?_))))));refine um (un th22 ?_);refine u_step (o_clip rfl rfl rfl th22 rfl th9 rfl ?_);refine u_step (o_assignV (v:=.dx _ _) rfl ?_);refine u_nil (WP.ret ?_);exact ⟨rfl,Nat.le_refl _,fun _ _=>rfl⟩
theorem fn111:FnOkC Try.prog 111 25 [.cell 6 27] (bodyOf Try.f111):=⟨Try.f111,Try.func111,by kernel_rfl,by decide,by kernel_rfl,by kernel_rfl⟩
theorem s111 (v:Val) (s:Str) (x:Val) (hsz:szV v≤1099511627776):PSpec Try.prog 111 [.d (encV v),.d (.str s),.d (encV x)] (.d (encV (growV v s x))):=by
 obtain ⟨kd,it,tx,xs,ns⟩:=v;obtain ⟨k2,i2,t2,xs2,ns2⟩:=x;have hsz2:1+tx.length+szVs xs+szN ns≤1099511627776:=hsz;have hxl:=szVs_len xs;have hnl:=szN_len ns;have hln:=encVs_length xs;refine PSpec.ofC1 tabOk fn111 (by simp) fun o nk=>?_;refine wr ?_;refine u_step (g_box rfl fun o2 hb2 hk2=>?_);refine u_step (g_box rfl fun o3 hb3 hk3=>?_);have hb2_3:=(hk3 _ (by omega)).trans hb2;refine u_step (g_alloc th27 rfl fun o4 hb4 hk4=>?_);have hb2_4:=(hk4 _ (by omega)).trans hb2_3;have hb3_4:=(hk4 _ (by omega)).trans hb3;refine u_nil (WP.seq fun K5 hK5=>?_);refine WP.dr2 [.q 0 0,.q 0 0,.q 0 0,.q 0 0,.q 0 0,.w 0,.q 1 1,.w 1] [5,7] ((((nk+1)+1)+1)+1) ((((nk+1)+1)+1)+1) tabOk (by kernel_rfl) rfl (by kernel_rfl) (by kernel_rfl) ?_;apply Exists.intro;apply Exists.intro;refine e_step rfl (o_fa_loc rfl th27 rfl rfl th25 (by decide) hb2_4 ⟨rfl,rfl,rfl⟩) ?_;refine e_step rfl (o_ld_loc rfl th25 rfl hb2_4 rfl ⟨rfl,rfl,rfl⟩) ?_;refine e_step rfl (o_pcall (s127 (encVs xs)) rfl ⟨rfl,rfl,rfl⟩) ?_;refine e_step rfl (o_ld_agg rfl th27 rfl hb3_4 rfl rfl rfl ⟨rfl,rfl,rfl⟩) ?_
 first | refine e_step rfl (o_bs rfl th25 rfl th27 rfl rfl (by decide) rfl (by decide) (by decide) ⟨rfl,rfl,rfl⟩) ?_ | refine e_step rfl (o_bs1 rfl (by simp only [encV_width]) th25 rfl th27 rfl rfl (by decide) (by decide) ⟨rfl,rfl,rfl⟩) ?_
 refine e_w rfl rfl (w_apxs rfl rfl th25 rfl th27 rfl rfl (by decide) (by simp) (by simp only [hln,List.length_cons,List.length_nil];omega) (by simp only [hln,List.length_cons,List.length_nil];omega) ⟨rfl,rfl,rfl⟩) ?_;refine e_step rfl (o_fa_loc rfl th27 rfl rfl th25 (by decide) ((upd_ne _ _ (by omega)).trans hb2_4) ⟨rfl,rfl,rfl⟩) ?_;refine e_w0 rfl rfl (w_stV rfl rfl (upd_same _ _ _) th25 rfl ((upd_ne _ _ (by omega)).trans hb2_4) (by simp) ⟨rfl,rfl,rfl⟩) ?_;refine e_nil rfl fun o8 ho8=>?_;have hbb3_8:=(ho8 _).trans ((upd_ne _ _ (by omega)).trans ((upd_ne _ _ (by omega)).trans hb3_4));have hbb4_8:=(ho8 _).trans ((upd_ne _ _ (by omega)).trans ((upd_ne _ _ (by omega)).trans hb4));have hbr6_8:=(ho8 _).trans ((upd_ne _ _ (by omega)).trans (upd_same _ _ _));have hbb2_8:=(ho8 _).trans (upd_same _ _ _);have hk8:∀ t,t < nk→o8 t=o4 t:=fun t ht=>(ho8 t).trans ((upd_ne _ _ (by omega)).trans (upd_ne _ _ (by omega)));refine hK5 _ (WP.seq fun K9 hK9=>?_);refine wr (uf th27 th3 hbb2_8 ?_);refine ul th3 hbb2_8 ?_;refine ub (u_nil ?_);refine wc (fun hc11=>?_) (fun hc11=>?_)
 ·
  simp at hc11;refine WP.reg tabOk rfl ?_;refine uf th27 th22 hbb2_8 ?_;refine ul th22 hbb2_8 ?_;refine u_step (o_pcall (s128 (ns.map D.str)) rfl ?_);refine um ?_;refine u_step (o_bs rfl th22 rfl th9 rfl rfl (by decide) rfl (by decide) (by decide) ?_);refine u_step (g_apxs rfl rfl th22 rfl th9 rfl rfl (by decide) (by simp) (by simp only [List.length_map,List.length_cons,List.length_nil];omega) (by simp only [List.length_map,List.length_cons,List.length_nil];omega) fun o12 hb12 hk12=>?_);have hbb3_12:=(hk12 _ (by omega)).trans hbb3_8;have hbb4_12:=(hk12 _ (by omega)).trans hbb4_8;have hbr6_12:=(hk12 _ (by omega)).trans hbr6_8;have hbb2_12:=(hk12 _ (by omega)).trans hbb2_8;refine uf th27 th22 hbb2_12 ?_;refine u_step0 (g_stV rfl rfl hb12 th22 rfl hbb2_12 (by simp) fun o13 hb13 hk13=>?_);have hbb3_13:=(hk13 _ (by omega)).trans hbb3_12;have hbb4_13:=(hk13 _ (by omega)).trans hbb4_12;have hbr6_13:=(hk13 _ (by omega)).trans hbr6_12;have hb12_13:=(hk13 _ (by omega)).trans hb12;refine u_nil (hK9 _ ?_);have hF0:∀ t,t < nk→o13 t=o t:=(fun t ht=>(hk13 t (by omega)).trans ((hk12 t (by omega)).trans ((hk8 t (by omega)).trans ((hk4 t (by omega)).trans ((hk3 t (by omega)).trans ((hk2 t (by omega))))))));refine WP.frzC2 (pre:=[.d (.int .i64 kd),.d (.int .i64 it),.d (.str tx)]) (post:=[]) [(3,.loc nk 0),(6,.loc (nk+1+1) 0)] nk hb13 (dst_row hbr6_13) (dst_row hb12_13) (fun t h1 h2=>by injection h1 with h1;injection h2 with h2;omega) (by omega) (fun t d=>⟨rfl,rfl⟩) (fun t d=>by simp only [List.forall_mem_cons];exact ⟨⟨rfl,rfl⟩,⟨rfl,rfl⟩,by simp⟩) (by simp only [List.forall_mem_cons];exact ⟨rfl,rfl,by simp⟩) (by simp only [List.forall_mem_cons];exact ⟨rfl,rfl,by simp⟩) fun o9 hB9 hk9 hm9=>?_;have hZ9:=hm9 _ _ (by omega) hbb4_13 fun t _=>rfl;have hF9:∀ t,t < nk→o9 t=o t:=fun t ht=>(hk9 t ht (by simp;omega) (by simp;omega)).trans (hF0 t ht);refine wr (ug th27 hB9 ?_);refine u_step0 (g_sta rfl rfl th27 rfl hZ9 (by first | (simp;done) | (simp [D.leaves,D.width,valCells];done) | decide) fun o15 hb15 hk15=>?_);have hB9_15:=(hk15 _ (by omega)).trans hB9;refine u_nil (WP.ret ?_);refine retC1_ok (resis_agg rfl th27 rfl hb15 rfl rfl rfl) ?_ (by omega) (fun t ht=>(hk15 t (by omega)).trans ((hF9 t (by omega))));exact growV_yes (i:=it) (t:=tx) (xs:=xs) (ns:=ns) (s:=s) (x:=.mk k2 i2 t2 xs2 ns2) hc11
 ·
  simp at hc11;refine WP.skip (hK9 _ ?_);have hF0:∀ t,t < nk→o8 t=o t:=(fun t ht=>(hk8 t (by omega)).trans ((hk4 t (by omega)).trans ((hk3 t (by omega)).trans ((hk2 t (by omega))))));refine WP.frzC (pre:=[.d (.int .i64 kd),.d (.int .i64 it),.d (.str tx)]) (post:=[.d (.sl 1 (ns.map .str))]) [(3,.loc nk 0),(6,.loc (nk+1+1) 0)] nk hbb2_8 (dst_row hbr6_8) (by omega) (fun t e=>⟨rfl,rfl⟩) (fun t e=>by simp only [List.forall_mem_cons];exact ⟨rfl,rfl,by simp⟩) (fun e=>by cases e) fun o9 hB9 hk9 hm9=>?_;have hZ9:=hm9 _ _ (by omega) hbb4_8 fun t _=>rfl;have hF9:∀ t,t < nk→o9 t=o t:=fun t ht=>(hk9 t ht (by simp;omega)).trans (hF0 t ht);refine wr (ug th27 hB9 ?_);refine u_step0 (g_sta rfl rfl th27 rfl hZ9 (by first | (simp;done) | (simp [D.leaves,D.width,valCells];done) | decide) fun o17 hb17 hk17=>?_);have hB9_17:=(hk17 _ (by omega)).trans hB9;refine u_nil (WP.ret ?_);refine retC1_ok (resis_agg rfl th27 rfl hb17 rfl rfl rfl) ?_ (by omega) (fun t ht=>(hk17 t (by omega)).trans ((hF9 t (by omega))));exact growV_no (i:=it) (t:=tx) (xs:=xs) (ns:=ns) (s:=s) (x:=.mk k2 i2 t2 xs2 ns2) hc11
theorem swapV_eq {k i:Int} {t:Str} {xs:List Val} {ns:List Str} {j:Nat} {x:Val}:D.agg [.int .i64 k,.int .i64 i,.str t,.sl 5 ((encVs xs).set j (encV x)),.sl 1 (ns.map D.str)]=encV (swapV (.mk k i t xs ns) j x):=by
 simp [swapV,Val.kind,Val.int,Val.text,Val.items,Val.names,encV,encVs_set]
theorem item_agg {xs:List Val} {j:Nat} (h:j < xs.length):(encVs xs)[j]?=some (.agg (valCells (xs[j]'h))):=by
 rw [encVs_map,List.getElem?_map,List.getElem?_eq_getElem h,Option.map_some,encV_eq]
theorem fn110:FnOkC Try.prog 110 10 [.cell 4 27] (bodyOf Try.f110):=⟨Try.f110,Try.func110,by kernel_rfl,by decide,by kernel_rfl,by kernel_rfl⟩
theorem s110:PSpec Try.prog 110 [.d .nil,.d .nil] (.d (encV (.mk 7 0 [] [] []))):=by
 refine PSpec.ofC1 tabOk fn110 (by simp) fun o nk=>?_;refine wr ?_;refine u_step (g_alloc th27 rfl fun o2 hb2 hk2=>?_);refine u_nil (wr (um ?_));refine u_step (o_pcall (((s114 [] (by simp)).frz.le (args:=[.d .nil]) ⟨by simp [SV.le,D.le],trivial⟩)) rfl ?_);refine um ?_;refine u_step (o_pcall (((s57 [] (by simp)).frz.le (args:=[.d .nil]) ⟨by simp [SV.le,D.le],trivial⟩)) rfl ?_);refine u_step (o_bu rfl th27 rfl rfl ?_);refine u_step0 (g_sta rfl rfl th27 rfl hb2 (by first | (simp;done) | (simp [D.leaves,D.width,valCells];done) | decide) fun o4 hb4 hk4=>?_);refine u_nil (WP.ret ?_);refine retC1_ok (resis_agg rfl th27 rfl hb4 rfl rfl rfl) ?_ (by omega) (fun t ht=>(hk4 t (by omega)).trans ((hk2 t (by omega))));rfl
theorem fn94:FnOkC Try.prog 94 17 [.cell 6 27] (bodyOf Try.f94):=⟨Try.f94,Try.func94,by kernel_rfl,by decide,by kernel_rfl,by kernel_rfl⟩
theorem s94 (v:Val) (j:Nat) (x:Val) (hj:j < v.items.length) (hsz:szV v≤1099511627776):PSpec Try.prog 94 [.d (encV v),.d (.int .i64 (j:Int)),.d (encV x)] (.d (encV (swapV v j x))):=by
 obtain ⟨kd,it,tx,xs,ns⟩:=v;obtain ⟨k2,i2,t2,xs2,ns2⟩:=x;have hj2:j < xs.length:=hj;have hsz2:1+tx.length+szVs xs+szN ns≤1099511627776:=hsz;have hxl:=szVs_len xs;have hln:=encVs_length xs;have hgx:=item_agg hj2;refine PSpec.ofC1 tabOk fn94 (by simp) fun o nk=>?_;refine wr ?_;refine u_step (g_box rfl fun o2 hb2 hk2=>?_);refine u_step (g_box rfl fun o3 hb3 hk3=>?_);have hb2_3:=(hk3 _ (by omega)).trans hb2;refine u_step (g_alloc th27 rfl fun o4 hb4 hk4=>?_);have hb2_4:=(hk4 _ (by omega)).trans hb2_3;have hb3_4:=(hk4 _ (by omega)).trans hb3;refine u_nil (wr (uf th27 th25 hb2_4 ?_));refine ul th25 hb2_4 ?_;refine u_step (o_rcall (s114r (encVs xs) (by intro e;rw [e] at hln;simp at hln;omega) (by omega)) rfl fun q6 o6 nk6 hqa6 hqb6 hb6 hk6=>?_);have hb2_6:=(hk6 _ (by omega)).trans hb2_4;have hb3_6:=(hk6 _ (by omega)).trans hb3_4;have hb4_6:=(hk6 _ (by omega)).trans hb4;refine uf th27 th25 hb2_6 ?_;refine u_step0 (g_stV rfl rfl hb6 th25 rfl hb2_6 (by simp) fun o7 hb7 hk7=>?_);have hb3_7:=(hk7 _ (by omega)).trans hb3_6;have hb4_7:=(hk7 _ (by omega)).trans hb4_6;have hb6_7:=(hk7 _ (by omega)).trans hb6;refine u_nil (wr (uf th27 th25 hb7 ?_));refine u_step (o_ld_locV rfl th25 rfl hb7 rfl ?_);refine um (ug th27 hb3_7 ?_);refine u_step (o_ia_rowR rfl rfl th25 rfl th27 rfl hb6_7 (by omega) ?_);refine u_step0 (g_stRel rfl rfl th27 hb6_7 hgx rfl rfl rfl fun o9 hb9 hk9=>?_);have hb3_9:=(hk9 _ (by omega)).trans hb3_7;have hb4_9:=(hk9 _ (by omega)).trans hb4_7;have hb7_9:=(hk9 _ (by omega)).trans hb7;refine u_nil ?_;have hF0:∀ t,t < nk→o9 t=o t:=(fun t ht=>(hk9 t (by omega)).trans ((hk7 t (by omega)).trans ((hk6 t (by omega)).trans ((hk4 t (by omega)).trans ((hk3 t (by omega)).trans ((hk2 t (by omega))))))));refine WP.frzC (pre:=[.d (.int .i64 kd),.d (.int .i64 it),.d (.str tx)]) (post:=[.d (.sl 1 (ns.map .str))]) [(3,.loc nk 0),(6,.loc (nk+1+1) 0)] nk hb7_9 (dst_row hb9) (by omega) (fun t e=>⟨rfl,rfl⟩) (fun t e=>by simp only [List.forall_mem_cons];exact ⟨rfl,rfl,by simp⟩) (fun e=>by cases e) fun o9 hB9 hk9 hm9=>?_;have hZ9:=hm9 _ _ (by omega) hb4_9 fun t _=>rfl;have hF9:∀ t,t < nk→o9 t=o t:=fun t ht=>(hk9 t ht (by simp;omega)).trans (hF0 t ht);refine wr (ug th27 hB9 ?_);refine u_step0 (g_sta rfl rfl th27 rfl hZ9 (by first | (simp;done) | (simp [D.leaves,D.width,valCells];done) | decide) fun o11 hb11 hk11=>?_);have hB9_11:=(hk11 _ (by omega)).trans hB9;refine u_nil (WP.ret ?_);refine retC1_ok (resis_agg rfl th27 rfl hb11 rfl rfl rfl) ?_ (by omega) (fun t ht=>(hk11 t (by omega)).trans ((hF9 t (by omega))));exact swapV_eq (i:=it) (t:=tx) (xs:=xs) (ns:=ns) (x:=.mk k2 i2 t2 xs2 ns2)
def ixI (s:Str):Int:=if 0≤stepI s then stepI s else 0
def ixB (s:Str):Bool:=decide (0≤stepI s)
theorem s99t (s:Str):PSpec Try.prog 99 [.d (.str s)] (.tup [.d (.int .i64 (ixI s)),.d (.bool (ixB s))]):=by
 have h:=s99 s;have e:(idxL s).map SV.d=[.d (.int .i64 (ixI s)),.d (.bool (ixB s))]:=by
  unfold idxL ixI ixB;by_cases h0:0≤stepI s <;> simp [h0]
 rw [e] at h;exact h
def setP:Val→List Str→Val→Val×Bool
 | v,[],x=>(x,true)
 | v,s :: p,x=>
  if 0≤placeV v s then (swapV v (placeV v s).toNat (setP (v.items.getD (placeV v s).toNat v) p x).1,(setP (v.items.getD (placeV v s).toNat v) p x).2)
  else if v.kind=7 then (growV v s (setP (.mk 7 0 [] [] []) p x).1,(setP (.mk 7 0 [] [] []) p x).2)
  else if v.kind=6 then (growV v [] x,ixB s && decide (ixI s=(v.items.length:Int)) && decide ((p.length:Int)+1=1))
  else (v,false)
theorem setP_in {v:Val} {s:Str} {p:List Str} {x y:Val} (h:0≤placeV v s) (hy:v.items[(placeV v s).toNat]?=some y):setP v (s :: p) x=(swapV v (placeV v s).toNat (setP y p x).1,(setP y p x).2):=by
 rw [setP,if_pos h,List.getD_eq_getElem?_getD,hy];rfl
theorem setP_doc {v:Val} {s:Str} {p:List Str} {x:Val} (h:¬ 0≤placeV v s) (h7:v.kind=7):setP v (s :: p) x=(growV v s (setP (.mk 7 0 [] [] []) p x).1,(setP (.mk 7 0 [] [] []) p x).2):=by
 rw [setP,if_neg h,if_pos h7]
theorem setP_arr {v:Val} {s:Str} {p:List Str} {x:Val} (h:¬ 0≤placeV v s) (h7:¬ v.kind=7) (h6:v.kind=6):setP v (s :: p) x=(growV v [] x,ixB s && decide (ixI s=(v.items.length:Int)) && decide ((p.length:Int)+1=1)):=by
 rw [setP,if_neg h,if_neg h7,if_pos h6]
theorem setP_no {v:Val} {s:Str} {p:List Str} {x:Val} (h:¬ 0≤placeV v s) (h7:¬ v.kind=7) (h6:¬ v.kind=6):setP v (s :: p) x=(v,false):=by
 rw [setP,if_neg h,if_neg h7,if_neg h6]
theorem s94c (v:Val) (i:Int) (x:Val) (h0:0≤i) (hj:i.toNat < v.items.length) (hsz:szV v≤1099511627776):PSpec Try.prog 94 [.d (encV v),.d (.int .i64 i),.d (.agg (valCells x))] (.d (encV (swapV v i.toNat x))):=by
 have h:=s94 v i.toNat x hj hsz;rw [Int.toNat_of_nonneg h0,encV_eq x] at h;exact h
theorem s111c (v:Val) (s:Str) (x:Val) (hsz:szV v≤1099511627776):PSpec Try.prog 111 [.d (encV v),.d (.str s),.d (.agg (valCells x))] (.d (encV (growV v s x))):=by
 have h:=s111 v s x hsz;rw [encV_eq x] at h;exact h
theorem o_sl_tl {P:Program} {Θ:Tab} {K:SV→(Nat→Option AO)→Nat→Prop} {sl:Nat→SV} {o:Nat→Option AO} {nk:Nat} {x lo:Operand} {t e:Nat} {i j:TI} {z:Nat} {a:D} {l:List D} (hx:ev sl x=.d (.sl z (a :: l))) (hlo:ev sl lo=.d (.int .i64 1)) (hi:Θ t=some i) (hk:i.k=.slice e) (hj:Θ e=some j) (hz:j.sz=z) (h:K (.d (.sl z l)) o nk):vOp P Θ (.slice t x (some lo) none none) ⟨sl,o,nk⟩ K:=by
 refine o_sl_sl (m:=(a :: l).length) (p:=1) hx hi hk hj hz (by simp [bndO]) ?_ ?_
 ·simp only [Option.map_some,bndO,hlo,bnd];rw [if_pos (by simp;omega)];rfl
 ·simpa using h
theorem fn90:FnOkC Try.prog 90 88 [.cell 6 27,.tmp 7] (bodyOf Try.f90):=⟨Try.f90,Try.func90,by kernel_rfl,by decide,by kernel_rfl,by kernel_rfl⟩
theorem s90A (m:Nat):∀ (p:List Str) (v x:Val),p.length < m→mayV v=true→szV v≤1099511627776→PSpec Try.prog 90 [.d (encV v),.d (.sl 1 (p.map .str)),.d (encV x)] (.tup (([encV (setP v p x).1,.bool (setP v p x).2]).map .d)):=by
 induction m with
 | zero=>intros;omega
 | succ m ih=>
  rintro p ⟨kd,it,tx,xs,ns⟩ ⟨k2,i2,t2,xs2,ns2⟩ hp hmy hsz;refine PSpec.of2C tabOk fn90 (by simp) fun o nk=>?_;refine wr ?_;refine u_step (g_box rfl fun o2 hb2 hk2=>?_);refine u_step (g_box rfl fun o3 hb3 hk3=>?_);have hb2_3:=(hk3 _ (by omega)).trans hb2;refine u_step (g_alloc th27 rfl fun o4 hb4 hk4=>?_);have hb2_4:=(hk4 _ (by omega)).trans hb2_3;have hb3_4:=(hk4 _ (by omega)).trans hb3;refine ua (u_nil (WP.seq fun K5 hK5=>?_));refine wr (um (un th22 ?_));refine ub (u_nil ?_);refine wc (fun hc7=>?_) (fun hc7=>?_)
  ·
   simp at hc7;refine wr (ug th27 hb3_4 ?_);refine u_step0 (g_sta rfl rfl th27 rfl hb4 (by first | (simp;done) | (simp [D.leaves,D.width,valCells];done) | decide) fun o9 hb9 hk9=>?_);have hb2_9:=(hk9 _ (by omega)).trans hb2_4;have hb3_9:=(hk9 _ (by omega)).trans hb3_4;refine ua (u_nil (WP.ret ?_));refine retC_ok (resis_agg rfl th27 rfl hb9 rfl rfl rfl) rfl ?_ ?_ (by omega) (fun t ht=>(hk9 t (by omega)).trans ((hk4 t (by omega)).trans ((hk3 t (by omega)).trans ((hk2 t (by omega))))))
   ·have hp0:p=[]:=by simpa using hc7
    subst hp0;first | rfl | exact (encV_eq _).symm
   ·have hp0:p=[]:=by simpa using hc7
    subst hp0;rfl
  ·
   simp at hc7;obtain ⟨s,p,rfl⟩:∃ s q,p=s :: q:=by cases p with
    | nil=>simp at hc7
    | cons s q=>exact ⟨s,q,rfl⟩
   have hp2:p.length < m:=by simp at hp;omega
   refine WP.skip (hK5 _ (WP.seq fun K10 hK10=>?_));refine wd ?_;refine dg th27 hb2_4 ?_;refine dm ?_;refine d_step (o_ia_sl rfl rfl th22 rfl th9 rfl (by decide) rfl ⟨rfl,rfl,rfl⟩) ?_;refine dL th9 ?_;refine d_step (o_pcall (s69 (.mk kd it tx xs ns) s) rfl ⟨rfl,rfl,rfl⟩) ?_;refine da ?_;refine d_nil ?_;refine wr (um (ub (u_nil ?_)));refine wc (fun hc13=>?_) (fun hc13=>?_)
   ·
    simp at hc13;have h0:0≤placeV (.mk kd it tx xs ns) s:=hc13;have hlt:=place_lt hmy s;obtain ⟨y,hy⟩:∃ y,xs[(placeV (.mk kd it tx xs ns) s).toNat]?=some y:=item_ex (xs:=xs) (j:=(placeV (.mk kd it tx xs ns) s).toNat) (by simp only [Val.items] at hlt;omega);have hym:mayV y=true:=may_item hmy (List.mem_of_getElem? hy);have hys:=sz_item (v:=(.mk kd it tx xs ns)) hy;refine WP.seq fun K14 hK14=>?_;refine WP.dr2 [.q 0 1,.q 0 1,.q 0 1,.q 0 1,.q 0 1,.q 0 1,.q 0 1,.q 0 1,.q 0 1,.q 0 1,.q 0 1,.q 0 2,.w 0,.w 1,.q 2 2] [12,13] ((((nk+1)+1)+1)+1) ((((nk+1)+1)+1)+1) tabOk (by kernel_rfl) rfl (by kernel_rfl) (by kernel_rfl) ?_;apply Exists.intro;apply Exists.intro;refine e_step2 rfl rfl (o_fa_loc rfl th27 rfl rfl th25 (by decide) hb2_4 ⟨rfl,rfl,rfl⟩) ?_ ?_;rotate_left;refine e_step2 rfl rfl (o_ld_loc rfl th25 rfl hb2_4 rfl ⟨rfl,rfl,rfl⟩) ?_ ?_;rotate_left;refine e_step2 rfl rfl (o_move rfl ⟨rfl,rfl,rfl⟩) ?_ ?_;rotate_left;refine e_step2 rfl rfl (o_ia_sl (a:=encV y) rfl rfl th25 rfl th27 rfl h0 (items_at (v:=(.mk kd it tx xs ns)) hy) ⟨rfl,rfl,rfl⟩) ?_ ?_;rotate_left;refine e_step2 rfl rfl (o_ld_el rfl th27 (by simp only [encV_leaf,TK.agg,Bool.not_true]) (by simp only [encV_width]) ⟨rfl,rfl,rfl⟩) ?_ ?_;rotate_left;refine e_step2 rfl rfl (o_move rfl ⟨rfl,rfl,rfl⟩) ?_ ?_;rotate_left;refine e_step2 rfl rfl (o_sl_tl rfl rfl th22 rfl th9 rfl ⟨rfl,rfl,rfl⟩) ?_ ?_;rotate_left;refine e_step2 rfl rfl (o_ld_agg rfl th27 rfl hb3_4 rfl rfl rfl ⟨rfl,rfl,rfl⟩) ?_ ?_;rotate_left;refine e_step2 rfl rfl (o_pcall (ih p y (.mk k2 i2 t2 xs2 ns2) hp2 hym (by omega)) rfl ⟨rfl,rfl,rfl⟩) ?_ ?_;rotate_left;refine e_step2 rfl rfl (o_moveV (v:=.tup _) rfl ⟨rfl,rfl,rfl⟩) ?_ ?_;rotate_left;refine e_step2 rfl rfl (o_ext rfl rfl ⟨rfl,rfl,rfl⟩) ?_ ?_;rotate_left;refine e_step3 rfl rfl rfl (o_ext rfl rfl ⟨rfl,rfl,rfl⟩) ?_ ?_ ?_;rotate_left 2;refine e_w rfl rfl (o_alloc th27 rfl ⟨rfl,rfl,rfl⟩) ?_;refine e_w0 rfl rfl (o_st_agg rfl (congrArg SV.d (encV_eq _)) th27 rfl (upd_same _ _ _) (by simp [valCells]) ⟨rfl,rfl,rfl⟩) ?_;refine e_step rfl (o_assign rfl ⟨rfl,rfl,rfl⟩) ?_;refine e_nil rfl fun o17 ho17=>?_;have hbb2_17:=(ho17 _).trans ((upd_ne _ _ (by omega)).trans ((upd_ne _ _ (by omega)).trans hb2_4));have hbb3_17:=(ho17 _).trans ((upd_ne _ _ (by omega)).trans ((upd_ne _ _ (by omega)).trans hb3_4));have hbb4_17:=(ho17 _).trans ((upd_ne _ _ (by omega)).trans ((upd_ne _ _ (by omega)).trans hb4));have hbb15_17:=(ho17 _).trans (upd_same _ _ _);have hk17:∀ t,t < nk→o17 t=o4 t:=fun t ht=>(ho17 t).trans ((upd_ne _ _ (by omega)).trans (upd_ne _ _ (by omega)))
    ·
     refine hK14 _ (wr (ug th27 hbb2_17 ?_));refine um (ug th27 hbb15_17 ?_);refine u_step (o_pcall (s94c (.mk kd it tx xs ns) (placeV (.mk kd it tx xs ns) s) _ h0 (by simp only [Val.items] at hlt ⊢;omega) hsz) rfl ?_);refine um ?_;refine u_step0 (g_sta rfl (congrArg SV.d (encV_eq _)) th27 rfl hbb4_17 (by simp [valCells]) fun o19 hb19 hk19=>?_);have hbb2_19:=(hk19 _ (by omega)).trans hbb2_17;have hbb3_19:=(hk19 _ (by omega)).trans hbb3_17;have hbb15_19:=(hk19 _ (by omega)).trans hbb15_17;refine ua (u_nil (WP.ret ?_));refine retC_ok (resis_agg rfl th27 rfl hb19 rfl rfl rfl) rfl ?_ ?_ (by omega) (fun t ht=>(hk19 t (by omega)).trans ((hk17 t (by omega)).trans ((hk4 t (by omega)).trans ((hk3 t (by omega)).trans ((hk2 t (by omega)))))))
     ·rw [setP_in h0 hy];first | rfl | exact (encV_eq _).symm
     ·rw [setP_in h0 hy]
    exact o_fa_loc rfl th27 rfl rfl th25 (by decide) ((upd_ne _ _ (by omega)).trans hb2_4) ⟨rfl,rfl,rfl⟩;exact o_ld_loc rfl th25 rfl ((upd_ne _ _ (by omega)).trans hb2_4) rfl ⟨rfl,rfl,rfl⟩;exact o_move rfl ⟨rfl,rfl,rfl⟩;exact o_ia_sl (a:=encV y) rfl rfl th25 rfl th27 rfl h0 (items_at (v:=(.mk kd it tx xs ns)) hy) ⟨rfl,rfl,rfl⟩;exact o_ld_el rfl th27 (by simp only [encV_leaf,TK.agg,Bool.not_true]) (by simp only [encV_width]) ⟨rfl,rfl,rfl⟩;exact o_move rfl ⟨rfl,rfl,rfl⟩;exact o_sl_tl rfl rfl th22 rfl th9 rfl ⟨rfl,rfl,rfl⟩;exact o_ld_agg rfl th27 rfl ((upd_ne _ _ (by omega)).trans hb3_4) rfl rfl rfl ⟨rfl,rfl,rfl⟩;exact o_pcall (ih p y (.mk k2 i2 t2 xs2 ns2) hp2 hym (by omega)) rfl ⟨rfl,rfl,rfl⟩;exact o_moveV (v:=.tup _) rfl ⟨rfl,rfl,rfl⟩;exact o_ext rfl rfl ⟨rfl,rfl,rfl⟩;exact o_ext rfl rfl ⟨rfl,rfl,rfl⟩;exact o_ext rfl rfl ⟨rfl,rfl,rfl⟩
   ·
    simp at hc13;have h0:¬ 0≤placeV (.mk kd it tx xs ns) s:=by omega
    refine WP.skip (hK10 _ (WP.seq fun K20 hK20=>?_));refine wr (uf th27 th3 hb2_4 ?_);refine ul th3 hb2_4 ?_;refine u_nil (WP.block (wr (ub (ua (u_nil ?_)))));refine wc (fun hc23=>?_) (fun hc23=>?_)
    ·
     simp at hc23;refine WP.seq fun K24 hK24=>?_;refine WP.dr2 [.q 0 1,.q 0 1,.q 0 1,.q 0 1,.q 0 1,.q 0 1,.q 0 1,.q 0 2,.w 0,.w 1,.q 2 2] [8,9] ((((nk+1)+1)+1)+1) ((((nk+1)+1)+1)+1) tabOk (by kernel_rfl) rfl (by kernel_rfl) (by kernel_rfl) ?_;apply Exists.intro;apply Exists.intro;refine e_step2 rfl rfl (o_pcall (s110) rfl ⟨rfl,rfl,rfl⟩) ?_ ?_;rotate_left;refine e_step2 rfl rfl (o_move rfl ⟨rfl,rfl,rfl⟩) ?_ ?_;rotate_left;refine e_step2 rfl rfl (o_sl_tl rfl rfl th22 rfl th9 rfl ⟨rfl,rfl,rfl⟩) ?_ ?_;rotate_left;refine e_step2 rfl rfl (o_ld_agg rfl th27 rfl hb3_4 rfl rfl rfl ⟨rfl,rfl,rfl⟩) ?_ ?_;rotate_left;refine e_step2 rfl rfl (o_pcall (ih p (.mk 7 0 [] [] []) (.mk k2 i2 t2 xs2 ns2) hp2 (by decide) (by decide)) rfl ⟨rfl,rfl,rfl⟩) ?_ ?_;rotate_left;refine e_step2 rfl rfl (o_moveV (v:=.tup _) rfl ⟨rfl,rfl,rfl⟩) ?_ ?_;rotate_left;refine e_step2 rfl rfl (o_ext rfl rfl ⟨rfl,rfl,rfl⟩) ?_ ?_;rotate_left;refine e_step3 rfl rfl rfl (o_ext rfl rfl ⟨rfl,rfl,rfl⟩) ?_ ?_ ?_;rotate_left 2;refine e_w rfl rfl (o_alloc th27 rfl ⟨rfl,rfl,rfl⟩) ?_;refine e_w0 rfl rfl (o_st_agg rfl (congrArg SV.d (encV_eq _)) th27 rfl (upd_same _ _ _) (by simp [valCells]) ⟨rfl,rfl,rfl⟩) ?_;refine e_step rfl (o_assign rfl ⟨rfl,rfl,rfl⟩) ?_;refine e_nil rfl fun o27 ho27=>?_;have hbb2_27:=(ho27 _).trans ((upd_ne _ _ (by omega)).trans ((upd_ne _ _ (by omega)).trans hb2_4));have hbb3_27:=(ho27 _).trans ((upd_ne _ _ (by omega)).trans ((upd_ne _ _ (by omega)).trans hb3_4));have hbb4_27:=(ho27 _).trans ((upd_ne _ _ (by omega)).trans ((upd_ne _ _ (by omega)).trans hb4));have hbb25_27:=(ho27 _).trans (upd_same _ _ _);have hk27:∀ t,t < nk→o27 t=o4 t:=fun t ht=>(ho27 t).trans ((upd_ne _ _ (by omega)).trans (upd_ne _ _ (by omega)))
     ·
      refine hK24 _ (WP.seq fun K28 hK28=>?_);refine WP.dr1 [.q 0 0,.q 0 0,.q 0 0,.q 0 0,.q 0 0,.q 0 0,.q 0 1,.w 0,.q 1 1] [7] ((((nk+1)+1)+1)+1) tabOk (by kernel_rfl) rfl (by kernel_rfl) (by kernel_rfl) ?_;apply Exists.intro;refine e_step rfl (o_ld_agg rfl th27 rfl hbb2_27 rfl rfl rfl ⟨rfl,rfl,rfl⟩) ?_;refine e_step rfl (o_move rfl ⟨rfl,rfl,rfl⟩) ?_;refine e_step rfl (o_ia_sl rfl rfl th22 rfl th9 rfl (by decide) rfl ⟨rfl,rfl,rfl⟩) ?_;refine e_step rfl (o_ld_el rfl th9 (by first | rfl | simp only [encV_leaf,encV_width,Bool.not_true,TK.agg]) (by first | rfl | simp only [encV_leaf,encV_width,Bool.not_true,TK.agg]) ⟨rfl,rfl,rfl⟩) ?_;refine e_step rfl (o_ld_agg rfl th27 rfl hbb25_27 rfl rfl rfl ⟨rfl,rfl,rfl⟩) ?_;refine e_step rfl (o_pcall (s111c (.mk kd it tx xs ns) s _ hsz) rfl ⟨rfl,rfl,rfl⟩) ?_;refine e_step2 rfl rfl (o_move rfl ⟨rfl,rfl,rfl⟩) ?_ ?_;rotate_left;refine e_w0 rfl rfl (o_st_agg rfl (congrArg SV.d (encV_eq _)) th27 rfl hbb4_27 (by simp [valCells]) ⟨rfl,rfl,rfl⟩) ?_;refine e_step rfl (o_assign rfl ⟨rfl,rfl,rfl⟩) ?_;refine e_nil rfl fun o30 ho30=>?_;have hbb2_30:=(ho30 _).trans ((upd_ne _ _ (by omega)).trans hbb2_27);have hbb3_30:=(ho30 _).trans ((upd_ne _ _ (by omega)).trans hbb3_27);have hbb25_30:=(ho30 _).trans ((upd_ne _ _ (by omega)).trans hbb25_27);have hbb4_30:=(ho30 _).trans (upd_same _ _ _);have hk30:∀ t,t < nk→o30 t=o27 t:=fun t ht=>(ho30 t).trans (upd_ne _ _ (by omega))
      ·
       refine hK28 _ (WP.ret ?_);refine retC_ok (resis_agg rfl th27 rfl hbb4_30 rfl rfl rfl) rfl ?_ ?_ (by omega) (fun t ht=>(hk30 t (by omega)).trans ((hk27 t (by omega)).trans ((hk4 t (by omega)).trans ((hk3 t (by omega)).trans ((hk2 t (by omega)))))))
       ·rw [setP_doc h0 hc23];first | rfl | exact (encV_eq _).symm
       ·rw [setP_doc h0 hc23]
      exact o_move rfl ⟨rfl,rfl,rfl⟩
     exact o_pcall (s110) rfl ⟨rfl,rfl,rfl⟩;exact o_move rfl ⟨rfl,rfl,rfl⟩;exact o_sl_tl rfl rfl th22 rfl th9 rfl ⟨rfl,rfl,rfl⟩;exact o_ld_agg rfl th27 rfl ((upd_ne _ _ (by omega)).trans hb3_4) rfl rfl rfl ⟨rfl,rfl,rfl⟩;exact o_pcall (ih p (.mk 7 0 [] [] []) (.mk k2 i2 t2 xs2 ns2) hp2 (by decide) (by decide)) rfl ⟨rfl,rfl,rfl⟩;exact o_moveV (v:=.tup _) rfl ⟨rfl,rfl,rfl⟩;exact o_ext rfl rfl ⟨rfl,rfl,rfl⟩;exact o_ext rfl rfl ⟨rfl,rfl,rfl⟩;exact o_ext rfl rfl ⟨rfl,rfl,rfl⟩
    ·
     simp at hc23;refine wr (ub (ua (u_nil ?_)));refine wc (fun hc32=>?_) (fun hc32=>?_)
     ·
      simp at hc32;refine wr (um ?_);refine u_step (o_ia_sl rfl rfl th22 rfl th9 rfl (by decide) rfl ?_);refine uL th9 ?_;refine u_step (o_pcall (s99t s) rfl ?_);refine u_step (o_moveV (v:=.tup _) rfl ?_);refine ue (ue (ua (ua (u_nil (wr (ug th27 hb2_4 ?_))))));refine ug th27 hb3_4 ?_;refine u_step (o_pcall (s111 (.mk kd it tx xs ns) [] (.mk k2 i2 t2 xs2 ns2) hsz) rfl ?_);refine um (um ?_);apply gT
      ·rfl
      ·intro hg;exact pm
      apply gT
      ·rfl
      ·intro hg;exact pf th27 th25 hb2_4
      apply gT
      ·rfl
      ·intro hg;try simp only [hg,ct,Bt]
       exact pl th25 hb2_4
      apply gT
      ·rfl
      ·intro hg;try simp only [hg,ct,Bt]
       exact pn th25
      apply gT
      ·rfl
      ·intro hg;try simp only [hg,ct,Bt]
       exact pb
      refine uA (um ?_);apply gT
      ·rfl
      ·intro hg;exact pm
      apply gT
      ·rfl
      ·intro hg;try simp only [hg,ct,Bt]
       exact pn th22
      apply gT
      ·rfl
      ·intro hg;try simp only [hg,ct,Bt]
       exact pb
      refine uA ?_;refine u_step0 (g_sta rfl (congrArg SV.d (encV_eq _)) th27 rfl hb4 (by simp [valCells]) fun o35 hb35 hk35=>?_);have hb2_35:=(hk35 _ (by omega)).trans hb2_4;have hb3_35:=(hk35 _ (by omega)).trans hb3_4;refine ua (u_nil (WP.ret ?_));refine retC_ok (resis_agg rfl th27 rfl hb35 rfl rfl rfl) rfl ?_ ?_ (by omega) (fun t ht=>(hk35 t (by omega)).trans ((hk4 t (by omega)).trans ((hk3 t (by omega)).trans ((hk2 t (by omega))))))
      ·rw [setP_arr h0 (by assumption) hc32];first | rfl | exact (encV_eq _).symm
      ·rw [setP_arr h0 (by assumption) hc32];refine congrArg D.bool ?_;rw [Bool.eq_iff_iff];simp [Val.items,encVs_length];exact fun _ _=>⟨fun h=>decide_eq_true h,fun h=>of_decide_eq_true h⟩
     ·
      simp at hc32;refine WP.skip (hK20 _ (wr (ug th27 hb2_4 ?_)));refine u_step0 (g_sta rfl rfl th27 rfl hb4 (by first | (simp;done) | (simp [D.leaves,D.width,valCells];done) | decide) fun o37 hb37 hk37=>?_);have hb2_37:=(hk37 _ (by omega)).trans hb2_4;have hb3_37:=(hk37 _ (by omega)).trans hb3_4;refine ua (u_nil (WP.ret ?_));refine retC_ok (resis_agg rfl th27 rfl hb37 rfl rfl rfl) rfl ?_ ?_ (by omega) (fun t ht=>(hk37 t (by omega)).trans ((hk4 t (by omega)).trans ((hk3 t (by omega)).trans ((hk2 t (by omega))))))
      ·rw [setP_no h0 (by assumption) hc32];first | rfl | exact (encV_eq _).symm
      ·rw [setP_no h0 (by assumption) hc32]
theorem s90 (p:List Str) (v x:Val) (hmy:mayV v=true) (hsz:szV v≤1099511627776):PSpec Try.prog 90 [.d (encV v),.d (.sl 1 (p.map .str)),.d (encV x)] (.tup (([encV (setP v p x).1,.bool (setP v p x).2]).map .d)):=s90A _ p v x (Nat.lt_succ_self _) hmy hsz
def zAgg:D:=.agg [.int .i64 0,.int .i64 0,.str [],.nil,.nil]
def chkT (v:Val) (p:List Str):Int:=if v.kind≠7∨mayV v=false then 20 else if pathV p then 0 else 40
theorem chkT_may {v:Val} {p:List Str} (h:chkT v p=0):mayV v=true∧v.kind=7∧pathV p=true:=by
 unfold chkT at h;split at h
 ·cases h
 ·rename_i h1;split at h
  ·rename_i h2;simp only [not_or,ne_eq,Decidable.not_not,Bool.not_eq_false] at h1;exact ⟨h1.2,h1.1,h2⟩
  ·cases h
def setD (v:Val) (p:List Str) (x:Val):D:=
 if v.kind=7∧mayV x=false then zAgg else if ¬ chkT v p=0 then zAgg else if (setP v p x).2=false then zAgg else encV (setP v p x).1
def setE (v:Val) (p:List Str) (x:Val):Int:=
 if v.kind=7∧mayV x=false then 20 else if ¬ chkT v p=0 then chkT v p else if (setP v p x).2=false then 40 else 0
theorem set_a {v:Val} {p:List Str} {x:Val} (h:v.kind=7∧mayV x=false):setD v p x=zAgg∧setE v p x=20:=⟨if_pos h,if_pos h⟩
theorem set_b {v:Val} {p:List Str} {x:Val} (h:¬ (v.kind=7∧mayV x=false)) (h2:¬ chkT v p=0):setD v p x=zAgg∧setE v p x=chkT v p:=by
 unfold setD setE;rw [if_neg h,if_neg h,if_pos h2,if_pos h2];exact ⟨rfl,rfl⟩
theorem set_c {v:Val} {p:List Str} {x:Val} (h:¬ (v.kind=7∧mayV x=false)) (h2:chkT v p=0) (h3:(setP v p x).2=false):setD v p x=zAgg∧setE v p x=40:=by
 have h4:¬ ¬ chkT v p=0:=fun e=>e h2;simp only [setD,setE,if_neg h,if_neg h4,if_pos h3,and_self]
theorem set_d {v:Val} {p:List Str} {x:Val} (h:¬ (v.kind=7∧mayV x=false)) (h2:chkT v p=0) (h3:(setP v p x).2=true):setD v p x=encV (setP v p x).1∧setE v p x=0:=by
 have h4:¬ ¬ chkT v p=0:=fun e=>e h2;have h5:¬ (setP v p x).2=false:=by simp [h3]
 simp only [setD,setE,if_neg h,if_neg h4,if_neg h5,and_self]
theorem fn61:FnOkC Try.prog 61 39 [.cell 6 27,.tmp 7] (bodyOf Try.f61):=⟨Try.f61,Try.func61,by kernel_rfl,by decide,by kernel_rfl,by kernel_rfl⟩
theorem s61 (v:Val) (p:List Str) (x:Val) (hsz:szV v≤1099511627776) (hsr:mayV v=true→szV (setP v p x).1≤1099511627776):PSpec Try.prog 61 [.d (encV v),.d (.sl 1 (p.map .str)),.d (encV x)] (.tup (([setD v p x,.int .i64 (setE v p x)]).map .d)):=by
 obtain ⟨kd,it,tx,xs,ns⟩:=v;obtain ⟨k2,i2,t2,xs2,ns2⟩:=x;refine PSpec.of2C tabOk fn61 (by simp) fun o nk=>?_;refine wr ?_;refine u_step (g_box rfl fun o2 hb2 hk2=>?_);refine u_step (g_box rfl fun o3 hb3 hk3=>?_);have hb2_3:=(hk3 _ (by omega)).trans hb2;refine u_step (g_alloc th27 rfl fun o4 hb4 hk4=>?_);have hb2_4:=(hk4 _ (by omega)).trans hb2_3;have hb3_4:=(hk4 _ (by omega)).trans hb3;refine ua (u_nil (WP.seq fun K5 hK5=>?_));refine wr (uf th27 th3 hb2_4 ?_);refine ul th3 hb2_4 ?_;refine ub (um ?_);apply gT
 ·rfl
 ·intro hg;exact pg th27 hb3_4
 apply gT
 ·rfl
 ·intro hg;try simp only [hg,ct,Bt]
  refine o_pcall (s34 (.mk k2 i2 t2 xs2 ns2)) rfl ⟨rfl,rfl,rfl⟩
 apply gT
 ·rfl
 ·intro hg;try simp only [hg,ct,Bt]
  exact pN
 refine uA ?_;refine u_nil ?_;refine wc (fun hc7=>?_) (fun hc7=>?_) <;> try simp only [Q0,Q1,Q2,Q3,Q4,Q5,Q6,Q7,Q8,ge_iff_le,gt_iff_lt] at hc7
 ·
  have hA:(kd=7∧mayV (.mk k2 i2 t2 xs2 ns2)=false):=by have hgo:=hc7;simpa using hgo
  refine wr ?_;refine u_step (o_bu rfl th27 rfl rfl ?_);refine u_step0 (g_sta rfl rfl th27 rfl hb4 (by first | (simp;done) | (simp [D.leaves,D.width,valCells];done) | decide) fun o9 hb9 hk9=>?_);have hb2_9:=(hk9 _ (by omega)).trans hb2_4;have hb3_9:=(hk9 _ (by omega)).trans hb3_4;refine ua (u_nil (WP.ret ?_));refine retC_ok (resis_agg rfl th27 rfl hb9 rfl rfl rfl) rfl ?_ ?_ (by omega) (fun t ht=>(hk9 t (by omega)).trans ((hk4 t (by omega)).trans ((hk3 t (by omega)).trans ((hk2 t (by omega))))))
  ·rw [(set_a (v:=(.mk kd it tx xs ns)) (p:=p) (x:=(.mk k2 i2 t2 xs2 ns2)) hA).1];first | rfl | exact (encV_eq _).symm
  ·rw [(set_a (v:=(.mk kd it tx xs ns)) (p:=p) (x:=(.mk k2 i2 t2 xs2 ns2)) hA).2] <;> rfl
 ·
  have hA:¬ (kd=7∧mayV (.mk k2 i2 t2 xs2 ns2)=false):=by have hgo:=hc7;simpa using hgo
  refine WP.skip ?_;refine hK5 _ ?_;refine WP.seq fun K10 hK10=>?_;refine wr ?_;refine ug th27 hb2_4 ?_;refine um ?_;refine u_step (o_pcall (s68 (.mk kd it tx xs ns) p) rfl ?_);refine ua ?_;refine u_nil ?_;refine wr ?_;refine um ?_;refine ub ?_;refine u_nil ?_;refine wc (fun hc13=>?_) (fun hc13=>?_) <;> try simp only [Q0,Q1,Q2,Q3,Q4,Q5,Q6,Q7,Q8,ge_iff_le,gt_iff_lt] at hc13
  ·
   have hz:¬ chkT (.mk kd it tx xs ns) p=0:=by have hgo:=hc13;intro e;unfold chkT at e;rw [e] at hgo;simp at hgo
   refine wr ?_;refine u_step (o_bu rfl th27 rfl rfl ?_);refine um ?_;refine u_step0 (g_sta rfl rfl th27 rfl hb4 (by first | (simp;done) | (simp [D.leaves,D.width,valCells];done) | decide) fun o15 hb15 hk15=>?_);have hb2_15:=(hk15 _ (by omega)).trans hb2_4;have hb3_15:=(hk15 _ (by omega)).trans hb3_4;refine ua (u_nil (WP.ret ?_));refine retC_ok (resis_agg rfl th27 rfl hb15 rfl rfl rfl) rfl ?_ ?_ (by omega) (fun t ht=>(hk15 t (by omega)).trans ((hk4 t (by omega)).trans ((hk3 t (by omega)).trans ((hk2 t (by omega))))))
   ·rw [(set_b (v:=(.mk kd it tx xs ns)) (p:=p) (x:=(.mk k2 i2 t2 xs2 ns2)) hA hz).1];first | rfl | exact (encV_eq _).symm
   ·rw [(set_b (v:=(.mk kd it tx xs ns)) (p:=p) (x:=(.mk k2 i2 t2 xs2 ns2)) hA hz).2] <;> rfl
  ·
   have hz:chkT (.mk kd it tx xs ns) p=0:=by have hgo:=hc13;unfold chkT;simpa using hgo
   refine WP.skip ?_;refine hK10 _ ?_;refine wr ?_;refine ug th27 hb2_4 ?_;refine um ?_;refine ug th27 hb3_4 ?_;refine u_step (o_pcall (s90 p (.mk kd it tx xs ns) (.mk k2 i2 t2 xs2 ns2) (chkT_may hz).1 hsz) rfl ?_);refine u_step (o_moveV (v:=.tup _) rfl ?_);refine ue ?_;refine ue ?_;refine u_step (g_alloc th27 rfl fun o17 hb17 hk17=>?_);have hb2_17:=(hk17 _ (by omega)).trans hb2_4;have hb3_17:=(hk17 _ (by omega)).trans hb3_4;have hb4_17:=(hk17 _ (by omega)).trans hb4;refine u_step0 (g_sta rfl (congrArg SV.d (encV_eq _)) th27 rfl hb17 (by simp [valCells]) fun o18 hb18 hk18=>?_);have hb2_18:=(hk18 _ (by omega)).trans hb2_17;have hb3_18:=(hk18 _ (by omega)).trans hb3_17;have hb4_18:=(hk18 _ (by omega)).trans hb4_17;refine ua ?_;refine u_nil ?_;refine WP.seq fun K19 hK19=>?_;refine wr ?_;refine um ?_;refine uN ?_;refine u_nil ?_;refine wc (fun hc21=>?_) (fun hc21=>?_) <;> try simp only [Q0,Q1,Q2,Q3,Q4,Q5,Q6,Q7,Q8,ge_iff_le,gt_iff_lt] at hc21
   ·
    have hy:(setP (.mk kd it tx xs ns) p (.mk k2 i2 t2 xs2 ns2)).2=false:=by have hgo:=hc21;simpa using hgo
    refine wr ?_;refine u_step (o_bu rfl th27 rfl rfl ?_);refine u_step0 (g_sta rfl rfl th27 rfl hb4_18 (by first | (simp;done) | (simp [D.leaves,D.width,valCells];done) | decide) fun o23 hb23 hk23=>?_);have hb2_23:=(hk23 _ (by omega)).trans hb2_18;have hb3_23:=(hk23 _ (by omega)).trans hb3_18;have hb18_23:=(hk23 _ (by omega)).trans hb18;refine ua (u_nil (WP.ret ?_));refine retC_ok (resis_agg rfl th27 rfl hb23 rfl rfl rfl) rfl ?_ ?_ (by omega) (fun t ht=>(hk23 t (by omega)).trans ((hk18 t (by omega)).trans ((hk17 t (by omega)).trans ((hk4 t (by omega)).trans ((hk3 t (by omega)).trans ((hk2 t (by omega))))))))
    ·rw [(set_c (v:=(.mk kd it tx xs ns)) (p:=p) (x:=(.mk k2 i2 t2 xs2 ns2)) hA hz hy).1];first | rfl | exact (encV_eq _).symm
    ·rw [(set_c (v:=(.mk kd it tx xs ns)) (p:=p) (x:=(.mk k2 i2 t2 xs2 ns2)) hA hz hy).2] <;> rfl
   ·
    have hy:(setP (.mk kd it tx xs ns) p (.mk k2 i2 t2 xs2 ns2)).2=true:=by have hgo:=hc21;simpa using hgo
    refine WP.skip (hK19 _ (wr (ug th27 hb18 ?_)));refine u_step (o_pcall (pv (v:=(setP (.mk kd it tx xs ns) p (.mk k2 i2 t2 xs2 ns2)).1) (s35 _ (hsr (chkT_may hz).1))) rfl ?_);refine u_step0 (g_sta rfl (congrArg SV.d (encV_eq _)) th27 rfl hb4_18 (by simp [valCells]) fun o25 hb25 hk25=>?_);have hb2_25:=(hk25 _ (by omega)).trans hb2_18;have hb3_25:=(hk25 _ (by omega)).trans hb3_18;have hb18_25:=(hk25 _ (by omega)).trans hb18;refine ua (u_nil (WP.ret ?_));refine retC_ok (resis_agg rfl th27 rfl hb25 rfl rfl rfl) rfl ?_ ?_ (by omega) (fun t ht=>(hk25 t (by omega)).trans ((hk18 t (by omega)).trans ((hk17 t (by omega)).trans ((hk4 t (by omega)).trans ((hk3 t (by omega)).trans ((hk2 t (by omega))))))))
    ·rw [(set_d (v:=(.mk kd it tx xs ns)) (p:=p) (x:=(.mk k2 i2 t2 xs2 ns2)) hA hz hy).1];first | rfl | exact (encV_eq _).symm
    ·rw [(set_d (v:=(.mk kd it tx xs ns)) (p:=p) (x:=(.mk k2 i2 t2 xs2 ns2)) hA hz hy).2] <;> rfl
section
variable {P:Program} {Θ:Tab} {K:SV→(Nat→Option AO)→Nat→Prop} {sl:Nat→SV} {o:Nat→Option AO} {nk:Nat} {x y lo hi mx:Operand} {t e:Nat}
theorem bnd_is {y m:Nat} (h:m≤y):bnd y (SV.d (D.int .i64 (m:Int)))=some m:=by
 simp only [bnd];rw [if_pos (by omega)];simp
theorem o_slv_lhm {i j:TI} {q z a b e2:Nat} {xs:List D} (hx:ev sl x=.row q) (ho:o q=some (.row e2 z xs)) (hlo:ev sl lo=.d (.int .i64 (a:Int))) (hhi:ev sl hi=.d (.int .i64 (b:Int))) (hmx:ev sl mx=.d (.int .i64 (xs.length:Int))) (hi':Θ t=some i) (hk:i.k=.slice e) (hj:Θ e=some j) (hz:j.sz=z) (hab:a≤b) (hb:b≤xs.length)
    (h:K (.view q a (b - a) (if xs.length=b then .exact else .unk)) o nk):vOp P Θ (.slice t x (some lo) (some hi) (some mx)) ⟨sl,o,nk⟩ K:=by
  refine .inr (.inl ⟨_,?_,h⟩);subst hz;have h1:viewOf o j.sz (.row q)=some (q,0,xs.length,.full,xs):=by simp [viewOf,ho]
  have h2:vbnd xs.length xs.length (some (.d (.int .i64 (a:Int)))) (some (.d (.int .i64 (b:Int)))) (some (.d (.int .i64 (xs.length:Int))))=some (a,b,some xs.length):=by
    delta vbnd
    simp only [bnd_is (Nat.le_refl _),bnd_is hb,bnd_is hab,Option.map_some]
  simp only [nQ,hi',hk,hj,hx,h1,Option.map_some,hlo,hhi,hmx,VC.cap,Nat.sub_zero,h2,VC.cut,Nat.zero_add]
theorem o_slv_h {i j:TI} {q z b e2:Nat} {xs:List D} (hx:ev sl x=.row q) (ho:o q=some (.row e2 z xs)) (hhi:ev sl hi=.d (.int .i64 (b:Int))) (hi':Θ t=some i) (hk:i.k=.slice e) (hj:Θ e=some j) (hz:j.sz=z) (hb:b≤xs.length)
    (h:K (.view q 0 b .full) o nk):vOp P Θ (.slice t x none (some hi) none) ⟨sl,o,nk⟩ K:=by
  refine .inr (.inl ⟨_,?_,h⟩);subst hz;have h1:viewOf o j.sz (.row q)=some (q,0,xs.length,.full,xs):=by simp [viewOf,ho]
  have h2:vbnd xs.length xs.length none (some (.d (.int .i64 (b:Int)))) none=some (0,b,none):=by
    delta vbnd
    simp only [bnd_is hb]
  simp only [nQ,hi',hk,hj,hx,h1,Option.map_some,Option.map_none,hhi,VC.cap,Nat.sub_zero,h2,VC.cut,Nat.zero_add]
theorem o_slv_l {i j:TI} {q z a e2:Nat} {xs:List D} (hx:ev sl x=.row q) (ho:o q=some (.row e2 z xs)) (hlo:ev sl lo=.d (.int .i64 (a:Int))) (hi':Θ t=some i) (hk:i.k=.slice e) (hj:Θ e=some j) (hz:j.sz=z) (ha:a≤xs.length)
    (h:K (.view q a (xs.length - a) .full) o nk):vOp P Θ (.slice t x (some lo) none none) ⟨sl,o,nk⟩ K:=by
  refine .inr (.inl ⟨_,?_,h⟩);subst hz;have h1:viewOf o j.sz (.row q)=some (q,0,xs.length,.full,xs):=by simp [viewOf,ho]
  have h2:vbnd xs.length xs.length (some (.d (.int .i64 (a:Int)))) none none=some (a,xs.length,none):=by
    delta vbnd
    simp only [bnd_is ha]
  simp only [nQ,hi',hk,hj,hx,h1,Option.map_some,Option.map_none,hlo,VC.cap,Nat.sub_zero,h2,VC.cut,Nat.zero_add]
theorem o_slvv {i j:TI} {q z m a b e2:Nat} {xs:List D} (hx:ev sl x=.view q 0 m .full) (ho:o q=some (.row e2 z xs)) (hm:m≤xs.length) (hlo:ev sl lo=.d (.int .i64 (a:Int))) (hhi:ev sl hi=.d (.int .i64 (b:Int))) (hi':Θ t=some i) (hk:i.k=.slice e) (hj:Θ e=some j) (hz:j.sz=z) (hab:a≤b) (hb:b≤xs.length)
    (h:K (.view q a (b - a) .full) o nk):vOp P Θ (.slice t x (some lo) (some hi) none) ⟨sl,o,nk⟩ K:=by
  refine .inr (.inl ⟨_,?_,h⟩);subst hz;have h1:viewOf o j.sz (.view q 0 m .full)=some (q,0,m,.full,xs):=by simp [viewOf,ho,hm]
  have h2:vbnd m xs.length (some (.d (.int .i64 (a:Int)))) (some (.d (.int .i64 (b:Int)))) none=some (a,b,none):=by
    delta vbnd
    simp only [bnd_is hb,bnd_is hab]
  simp only [nQ,hi',hk,hj,hx,h1,Option.map_some,Option.map_none,hlo,hhi,VC.cap,Nat.sub_zero,h2,VC.cut,Nat.zero_add]
theorem o_len_v {i:TI} {q l m z e2:Nat} {c:VC} {xs:List D} (hx:ev sl x=.view q l m c) (ho:o q=some (.row e2 z xs)) (hi:Θ t=some i) (hk:i.k=.slice e) (h:K (.d (.int .i64 (m:Int))) o nk):vOp P Θ (.call { callee:=.builtin .len,args:=#[x],argTypes:=#[t] }) ⟨sl,o,nk⟩ K:=by
 refine .inr (.inl ⟨.d (.int .i64 (m:Int)),?_,h⟩);simp only [nQ,hi,hk,hx,ho]
theorem w_apv {i j:TI} {q z a b:Nat} {xs:List D} (hx:ev sl x=.view q 0 a .full) (hy:ev sl y=.view q b (xs.length - b) .full) (ho:o q=some (.row e z xs)) (hi:Θ t=some i) (hk:i.k=.slice e) (hj:Θ e=some j) (hz:j.sz=z) (hpos:0 < j.sz) (hzD:(zD j).isSome=true) (hzl:zLen j=true) (hab:a≤b) (hb:b≤xs.length)
    (h:K (.view q 0 (a+(xs.length - b)) .full) (upd o q (some (.row e z (xs.take a++xs.drop b++xs.drop (a+(xs.length - b)))))) nk):vOp P Θ (.call { callee:=.builtin .append,args:=#[x,y],argTypes:=#[t,t] }) ⟨sl,o,nk⟩ K:=by
  subst hz;obtain ⟨zz,hzz⟩:=Option.isSome_iff_exists.1 hzD;have hv:viewOf o j.sz (.view q b (xs.length - b) .full)=some (q,b,xs.length - b,.full,xs):=by simp [viewOf,ho];omega
  have hv2:viewOf o j.sz (.view q 0 a .full)=some (q,0,a,.full,xs):=by simp [viewOf,ho];omega
  have hs:srcN o j.sz (.view q b (xs.length - b) .full)=some (xs.drop b):=by
    simp only [srcN,hv];rw [List.take_of_length_le (by simp)]
  cases hd:xs.drop b with
  | nil=>
    have hbl:xs.length - b=0:=by have:=congrArg List.length hd;simpa using this
    refine .inr (.inr ⟨(.view q 0 a .full,[],nk),nW_of0 ?_,?_⟩)
    · simp only [nW0,hi,hk,hj,hzz,hx,hy,if_true,hs,hd,hpos,hzl,and_self,hv2,ho]
    · have e1:xs.take a++xs.drop b++xs.drop (a+(xs.length - b))=xs:=by rw [hd,hbl];simp
      rw [e1,hbl] at h;have e2:upd o q (some (.row e j.sz xs))=o:=by
        funext u;by_cases hu:u=q
        · subst hu;rw [upd_same,ho]
        · exact upd_ne _ _ hu
      rw [e2] at h;exact h
  | cons y0 r=>
    have hl:r.length+1=xs.length - b:=by have:=congrArg List.length hd;simpa using this.symm
    refine .inr (.inr ⟨(.view q 0 (a+(xs.length - b)) .full,[(q,some (.row e j.sz (xs.take a++xs.drop b++xs.drop (a+(xs.length - b)))))],nk),nW_of0 ?_,h⟩);simp only [nW0,hi,hk,hj,hzz,hx,hy,if_true,hs,hd,hpos,hzl,and_self,hv2,ho];rw [if_pos ⟨trivial,trivial,by simp;omega⟩];simp only [List.length_cons,hl,Nat.zero_add]
theorem g_clear {i j:TI} {q z l m e2:Nat} {c:VC} {zz:D} {xs:List D} (hx:ev sl x=.view q l m c) (ho:o q=some (.row e2 z xs)) (hi:Θ t=some i) (hk:i.k=.slice e) (hj:Θ e=some j) (hz:j.sz=z) (hzD:zD j=some zz) (hw:zz.width=j.sz) (hb:l+m≤xs.length)
    (h:∀ o1,o1 q=some (.row e2 z (xs.take l++List.replicate m zz++xs.drop (l+m)))→(∀ u,u≠q→o1 u=o u)→K (.tup []) o1 nk):vOp P Θ (.call { callee:=.builtin .clear,args:=#[x],argTypes:=#[t] }) ⟨sl,o,nk⟩ K:=by
  subst hz;have hv:viewOf o j.sz (.view q l m c)=some (q,l,m,c,xs):=by simp [viewOf,ho,hb]
  refine .inr (.inr ⟨(.tup [],[(q,some (.row e2 j.sz (xs.take l++List.replicate m zz++xs.drop (l+m))))],nk),nW_of0 ?_,h _ (upd_same _ _ _) fun u hu=>upd_ne _ _ hu⟩);simp only [nW0,hi,hk,hj,hzD,hx,hv,hw,if_true,ho]
end
def delA (xs:List D) (i:Nat):List D:=xs.take i++xs.drop (i+1)++xs.drop (i+(xs.length - (i+1)))
def delB (zz:D) (xs:List D) (i:Nat):List D:=(delA xs i).take (i+(xs.length - (i+1)))++List.replicate (xs.length - (i+(xs.length - (i+1)))) zz++(delA xs i).drop (i+(xs.length - (i+1))+(xs.length - (i+(xs.length - (i+1)))))
theorem delA_len {xs:List D} {i:Nat} (h:i < xs.length):(delA xs i).length=xs.length:=by simp [delA];omega
theorem delB_take {zz:D} {xs:List D} {i:Nat} (h:i < xs.length):(delB zz xs i).take (i+(xs.length - (i+1)))=xs.eraseIdx i:=by
 have h1:((delA xs i).take (i+(xs.length - (i+1)))).length=i+(xs.length - (i+1)):=by rw [List.length_take,delA_len h];omega
 rw [delB,List.append_assoc,List.take_left' h1];have h2:(xs.take i++xs.drop (i+1)).length=i+(xs.length - (i+1)):=by simp;omega
 rw [delA,List.take_left' h2,List.eraseIdx_eq_take_drop_succ]
theorem delB_len {zz:D} {xs:List D} {i:Nat} (h:i < xs.length):(delB zz xs i).length=xs.length:=by
 simp only [delB,List.length_append,List.length_take,List.length_replicate,List.length_drop,delA_len h];omega
theorem fn113:FnOk Try.prog 113 33 [6] (bodyOf Try.f113):=⟨Try.f113,Try.func113,by kernel_rfl,by decide,by kernel_rfl,by kernel_rfl⟩
theorem s113 (xs:List D) (i:Nat) (o:Nat→Option AO) (nk q:Nat) (hq:o q=some (.row 27 5 xs)) (hqn:q < nk) (hi:i < xs.length) (hsz:xs.length≤1099511627776):Spec Try.prog 113 [.row q,.d (.int .i64 (i:Int)),.d (.int .i64 ((i+1:Nat):Int))] o nk (fun r' o' nk'=>r'=.view q 0 (i+(xs.length - (i+1))) .full∧nk≤nk'∧o' q=some (.row 27 5 (delB (.agg [.int .i64 0,.int .i64 0,.str [],.nil,.nil]) xs i))∧∀ t,t < nk∧t≠q→o' t=o t):=by
 have hal:=delA_len hi;refine Spec.of_body fn113 (by simp) ?_;refine wr ?_;refine ua ?_;refine u_nil ?_;refine wr ?_;refine uR ?_;refine um ?_;refine um ?_;refine uR ?_;refine u_step (o_len_row rfl th25 rfl hq ?_);refine u_step (o_slv_lhm rfl hq rfl rfl rfl th25 rfl th27 rfl (by omega) (by omega) ?_);refine u_nil ?_;refine WP.seq fun K3 hK3=>?_;refine wr ?_;refine um ?_;refine um ?_;refine ub ?_;refine u_nil ?_;refine wc (fun hc5=>?_) (fun hc5=>?_) <;> try simp only [Q0,Q1,Q2,Q3,Q4,Q5,Q6,Q7,Q8,ge_iff_le,gt_iff_lt] at hc5
 ·
  exfalso;have hgo:=hc5
  first | omega | (simp at hgo;done) | (simp at hgo;omega)
 ·
  refine WP.skip (hK3 _ (wr (uR ?_)));refine u_step (o_len_row rfl th25 rfl hq ?_);refine ua (u_nil (WP.seq fun K7 hK7=>?_));refine WP.dr1 [.q 0 0,.q 0 0,.q 0 0,.q 0 0,.q 0 0,.q 0 0,.w 0,.q 1 1] [6] nk tabOk (by kernel_rfl) rfl (by kernel_rfl) (by kernel_rfl) ?_;apply Exists.intro;refine e_step rfl (o_moveV (v:=.row _) rfl ⟨rfl,rfl,rfl⟩) ?_;refine e_step rfl (o_move rfl ⟨rfl,rfl,rfl⟩) ?_;refine e_step rfl (o_slv_h rfl hq rfl th25 rfl th27 rfl (by omega) ⟨rfl,rfl,rfl⟩) ?_;refine e_step rfl (o_moveV (v:=.row _) rfl ⟨rfl,rfl,rfl⟩) ?_;refine e_step rfl (o_move rfl ⟨rfl,rfl,rfl⟩) ?_;refine e_step rfl (o_slv_l rfl hq rfl th25 rfl th27 rfl (by omega) ⟨rfl,rfl,rfl⟩) ?_;refine e_w rfl rfl (w_apv rfl rfl hq th25 rfl th27 rfl (by decide) rfl rfl (by omega) (by omega) ⟨rfl,rfl,rfl⟩) ?_;refine e_step rfl (o_assignV (v:=.view _ _ _ _) rfl ⟨rfl,rfl,rfl⟩) ?_;refine e_nil rfl fun o9 ho9=>?_;have hbr0_9:=(ho9 _).trans (upd_same _ _ _);have hk9:∀ t,t < nk∧t≠q→o9 t=o t:=fun t ht=>(ho9 t).trans (upd_ne _ _ (by omega));refine hK7 _ ?_;have hrA:o9 q=some (AO.row 27 5 (delA xs i)):=hbr0_9;refine wr ?_;refine u_step (o_moveV (v:=.view _ _ _ _) rfl ?_);refine u_step (o_moveV (v:=.view _ _ _ _) rfl ?_);refine u_step (o_len_v rfl hrA th25 rfl ?_);refine um ?_;refine u_step (o_slvv rfl hrA (by omega) rfl rfl th25 rfl th27 rfl (by omega) (by omega) ?_);refine u_step0 (g_clear rfl hrA th25 rfl th27 rfl rfl rfl (by omega) fun o11 hb11 hk11=>?_);refine u_nil (wr ?_);refine u_step (o_moveV (v:=.view _ _ _ _) rfl ?_);refine u_step (o_assignV (v:=.view _ _ _ _) rfl ?_);refine u_nil (WP.ret ?_);exact ⟨rfl,Nat.le_refl _,hb11,(fun t ht=>(hk11 t (by omega)).trans ((hk9 t (by omega))))⟩
theorem fn115:FnOk Try.prog 115 33 [6] (bodyOf Try.f115):=⟨Try.f115,Try.func115,by kernel_rfl,by decide,by kernel_rfl,by kernel_rfl⟩
theorem s115 (xs:List D) (i:Nat) (o:Nat→Option AO) (nk q:Nat) (hq:o q=some (.row 9 1 xs)) (hqn:q < nk) (hi:i < xs.length) (hsz:xs.length≤1099511627776):Spec Try.prog 115 [.row q,.d (.int .i64 (i:Int)),.d (.int .i64 ((i+1:Nat):Int))] o nk (fun r' o' nk'=>r'=.view q 0 (i+(xs.length - (i+1))) .full∧nk≤nk'∧o' q=some (.row 9 1 (delB (.str []) xs i))∧∀ t,t < nk∧t≠q→o' t=o t):=by
 have hal:=delA_len hi;refine Spec.of_body fn115 (by simp) ?_;refine wr ?_;refine ua ?_;refine u_nil ?_;refine wr ?_;refine uR ?_;refine um ?_;refine um ?_;refine uR ?_;refine u_step (o_len_row rfl th22 rfl hq ?_);refine u_step (o_slv_lhm rfl hq rfl rfl rfl th22 rfl th9 rfl (by omega) (by omega) ?_);refine u_nil ?_;refine WP.seq fun K3 hK3=>?_;refine wr ?_;refine um ?_;refine um ?_;refine ub ?_;refine u_nil ?_;refine wc (fun hc5=>?_) (fun hc5=>?_) <;> try simp only [Q0,Q1,Q2,Q3,Q4,Q5,Q6,Q7,Q8,ge_iff_le,gt_iff_lt] at hc5
 ·
  exfalso;have hgo:=hc5
  first | omega | (simp at hgo;done) | (simp at hgo;omega)
 ·
  refine WP.skip (hK3 _ (wr (uR ?_)));refine u_step (o_len_row rfl th22 rfl hq ?_);refine ua (u_nil (WP.seq fun K7 hK7=>?_));refine WP.dr1 [.q 0 0,.q 0 0,.q 0 0,.q 0 0,.q 0 0,.q 0 0,.w 0,.q 1 1] [6] nk tabOk (by kernel_rfl) rfl (by kernel_rfl) (by kernel_rfl) ?_;apply Exists.intro;refine e_step rfl (o_moveV (v:=.row _) rfl ⟨rfl,rfl,rfl⟩) ?_;refine e_step rfl (o_move rfl ⟨rfl,rfl,rfl⟩) ?_;refine e_step rfl (o_slv_h rfl hq rfl th22 rfl th9 rfl (by omega) ⟨rfl,rfl,rfl⟩) ?_;refine e_step rfl (o_moveV (v:=.row _) rfl ⟨rfl,rfl,rfl⟩) ?_;refine e_step rfl (o_move rfl ⟨rfl,rfl,rfl⟩) ?_;refine e_step rfl (o_slv_l rfl hq rfl th22 rfl th9 rfl (by omega) ⟨rfl,rfl,rfl⟩) ?_;refine e_w rfl rfl (w_apv rfl rfl hq th22 rfl th9 rfl (by decide) rfl rfl (by omega) (by omega) ⟨rfl,rfl,rfl⟩) ?_;refine e_step rfl (o_assignV (v:=.view _ _ _ _) rfl ⟨rfl,rfl,rfl⟩) ?_;refine e_nil rfl fun o9 ho9=>?_;have hbr0_9:=(ho9 _).trans (upd_same _ _ _);have hk9:∀ t,t < nk∧t≠q→o9 t=o t:=fun t ht=>(ho9 t).trans (upd_ne _ _ (by omega));refine hK7 _ ?_;have hrA:o9 q=some (AO.row 9 1 (delA xs i)):=hbr0_9;refine wr ?_;refine u_step (o_moveV (v:=.view _ _ _ _) rfl ?_);refine u_step (o_moveV (v:=.view _ _ _ _) rfl ?_);refine u_step (o_len_v rfl hrA th22 rfl ?_);refine um ?_;refine u_step (o_slvv rfl hrA (by omega) rfl rfl th22 rfl th9 rfl (by omega) (by omega) ?_);refine u_step0 (g_clear rfl hrA th22 rfl th9 rfl rfl rfl (by omega) fun o11 hb11 hk11=>?_);refine u_nil (wr ?_);refine u_step (o_moveV (v:=.view _ _ _ _) rfl ?_);refine u_step (o_assignV (v:=.view _ _ _ _) rfl ?_);refine u_nil (WP.ret ?_);exact ⟨rfl,Nat.le_refl _,hb11,(fun t ht=>(hk11 t (by omega)).trans ((hk9 t (by omega))))⟩
section
variable {P:Program} {Θ:Tab} {K:SV→(Nat→Option AO)→Nat→Prop} {sl:Nat→SV} {o:Nat→Option AO} {nk:Nat} {x y:Operand} {t e:Nat}
theorem g_stW {i:TI} {k g q l m e z:Nat} {c:VC} {xs:List D} {cs:List SV} (hx:ev sl x=.loc k g) (hy:ev sl y=.view q l m c) (hq:o q=some (.row e z xs)) (hi:Θ t=some i) (hs:i.sz=1) (ho:o k=some (.box cs)) (hle:g < cs.length) (h:∀ o1,o1 k=some (.box (cs.take g++[.view q l m c]++cs.drop (g+1)))→(∀ u,u≠k→o1 u=o u)→K .any o1 nk):vOp P Θ (.store t x y) ⟨sl,o,nk⟩ K:=by
 refine Or.inl ?_;refine ⟨i,[.view q l m c],hi,?_,hs.symm,?_⟩
 ·show (ev sl y).cells o=_;rw [hy];simp [SV.cells,hq]
 ·show (match ev sl x with | .loc k f=>_ | _=>False);rw [hx];exact ⟨cs,ho,by simp;omega,h _ (upd_same _ _ _) fun u hu=>upd_ne _ _ hu⟩
theorem g_vcall {g:FuncId} {asx:Array Operand} {ts:Array Nat} {us:List SV} {R:SV} {q:Nat} {X:AO} (hs:Spec P g us o nk fun r' o' nk'=>r'=R∧nk≤nk'∧o' q=some X∧∀ t,t < nk∧t≠q→o' t=o t) (ha:asx.toList.map (ev sl)=us)
    (h:∀ o1 nk1,nk≤nk1→o1 q=some X→(∀ t,t < nk→t≠q→o1 t=o t)→K R o1 nk1):vOp P Θ (.call { callee:=.value (.func g),args:=asx,argTypes:=ts }) ⟨sl,o,nk⟩ K:=
  o_call hs ha (by rintro r' o' nk' ⟨rfl,h1,h2,h3⟩;exact h o' nk' h1 h2 fun t ht hq=>h3 t ⟨ht,hq⟩)
end
theorem addN {i:Nat} (h:i≤1099511627776):intBin .add .i64 (i:Int) 1=some (.int .i64 ((i+1:Nat):Int)):=by
 show some (D.int .i64 (IntKind.i64.wrap ((i:Int)+1)))=_;rw [wrap_i64 (by omega) (by omega)];simp
theorem delPart {z:Nat} {zz:D} {ys:List D} {i:Nat} (h:i < ys.length):(D.sl z (delB zz ys i)).part 0 (i+(ys.length - (i+1)))=.d (.sl z (ys.eraseIdx i)):=by
 have hl:=delB_len (zz:=zz) h;simp only [D.part];rw [if_pos (by omega),List.drop_zero,delB_take h]
theorem encVs_erase (xs:List Val) (i:Nat):(encVs xs).eraseIdx i=encVs (xs.eraseIdx i):=by
 rw [encVs_map,encVs_map,List.eraseIdx_eq_take_drop_succ,List.eraseIdx_eq_take_drop_succ];simp
theorem strs_erase (ns:List Str) (i:Nat):(ns.map D.str).eraseIdx i=(ns.eraseIdx i).map D.str:=by
 rw [List.eraseIdx_eq_take_drop_succ,List.eraseIdx_eq_take_drop_succ];simp
def nullV:Val:=.mk 1 0 [] [] []
def withoutV (v:Val) (i:Nat):Val:=if v.kind=6 then swapV v i nullV else .mk v.kind v.int v.text (v.items.eraseIdx i) (v.names.eraseIdx i)
theorem s94n (v:Val) (j:Nat) (hj:j < v.items.length) (hsz:szV v≤1099511627776):PSpec Try.prog 94 [.d (encV v),.d (.int .i64 (j:Int)),.d (.agg [.int .i64 1,.int .i64 0,.str [],.nil,.nil])] (.d (encV (swapV v j nullV))):=
 (s94 v j nullV hj hsz).le ⟨D.le_refl _,D.le_refl _,by simp [SV.le,D.le,D.les,nullV,encV,encVs],trivial⟩
theorem s57r (ns:List D) (hne:ns≠[]) (hsz:ns.length≤1099511627776):RSpec Try.prog 57 [.d (.sl 1 ns)] 9 1 (ns):=by
 refine RSpec.of fn57 (by simp) fun o nk=>?_;refine wr ?_;refine ua ?_;refine u_nil ?_;refine WP.seq fun K2 hK2=>?_;refine wr ?_;refine um ?_;refine u_step (o_eqnil rfl rfl th22 rfl fun nb4 hnb4=>?_);refine u_nil ?_;refine wc (fun hc5=>?_) (fun hc5=>?_) <;> try simp only [Q0,Q1,Q2,Q3,Q4,Q5,Q6,Q7,Q8,ge_iff_le,gt_iff_lt] at hc5
 ·
  exact absurd (hnb4 hc5) hne
 ·
  refine WP.skip (hK2 _ (wr ?_));refine u_step (g_bs0 th22 rfl th9 rfl rfl (by decide) fun o7 hb7 hk7=>?_);refine um ?_;refine u_step (g_ap rfl rfl th22 rfl th9 rfl rfl (by decide) rfl hb7 (by simp only [List.length_nil];omega) (by simp only [List.length_nil];omega) fun o8 hb8 hk8=>?_);refine uS (u_nil (WP.ret ?_));refine rrow_okx rfl (by omega) (by omega) hb8 (fun t ht=>(hk8 t (by omega) (by omega)).trans ((hk7 t (by omega)))) ?_;simp
theorem fn92:FnOkC Try.prog 92 29 [.cell 4 27] (bodyOf Try.f92):=⟨Try.f92,Try.func92,by kernel_rfl,by decide,by kernel_rfl,by kernel_rfl⟩
theorem s92 (v:Val) (i:Nat) (hi:i < v.items.length) (hmy:mayV v=true) (hk:v.kind=6∨v.kind=7) (hsz:szV v≤1099511627776):PSpec Try.prog 92 [.d (encV v),.d (.int .i64 (i:Int))] (.d (encV (withoutV v i))):=by
 obtain ⟨kd,it,tx,xs,ns⟩:=v;have hi2:i < xs.length:=hi;have hsz2:1+tx.length+szVs xs+szN ns≤1099511627776:=hsz;have hxl:=szVs_len xs;have hnl:=szN_len ns;have hln:=encVs_length xs;refine PSpec.ofC1 tabOk fn92 (by simp) fun o nk=>?_;refine wr ?_;refine u_step (g_box rfl fun o2 hb2 hk2=>?_);refine u_step (g_alloc th27 rfl fun o3 hb3 hk3=>?_);have hb2_3:=(hk3 _ (by omega)).trans hb2;refine u_nil (WP.seq fun K4 hK4=>?_);refine wr (uf th27 th3 hb2_3 ?_);refine ul th3 hb2_3 ?_;refine ub (u_nil ?_);refine wc (fun hc6=>?_) (fun hc6=>?_)
 ·
  simp at hc6;refine WP.seq fun K7 hK7=>?_;refine WP.dr1 [.q 0 0,.q 0 0,.q 0 0,.q 0 0,.w 0] [4] ((nk+1)+1) tabOk (by kernel_rfl) rfl (by kernel_rfl) (by kernel_rfl) ?_;apply Exists.intro;refine e_step rfl (o_ld_agg rfl th27 rfl hb2_3 rfl rfl rfl ⟨rfl,rfl,rfl⟩) ?_;refine e_step rfl (o_move rfl ⟨rfl,rfl,rfl⟩) ?_;refine e_step rfl (o_pcall (s112) rfl ⟨rfl,rfl,rfl⟩) ?_;refine e_step rfl (o_pcall (s94n (.mk kd it tx xs ns) i hi2 hsz) rfl ⟨rfl,rfl,rfl⟩) ?_;refine e_w0 rfl rfl (o_st_agg rfl (congrArg SV.d (encV_eq _)) th27 rfl hb3 (by simp [valCells]) ⟨rfl,rfl,rfl⟩) ?_;refine e_nil rfl fun o9 ho9=>?_;have hbb2_9:=(ho9 _).trans ((upd_ne _ _ (by omega)).trans hb2_3);have hbb3_9:=(ho9 _).trans (upd_same _ _ _);have hk9:∀ t,t < nk→o9 t=o3 t:=fun t ht=>(ho9 t).trans (upd_ne _ _ (by omega));refine hK7 _ (WP.ret ?_);refine retC1_ok (resis_agg rfl th27 rfl hbb3_9 rfl rfl rfl) ?_ (by omega) (fun t ht=>(hk9 t (by omega)).trans ((hk3 t (by omega)).trans ((hk2 t (by omega)))));have hw:withoutV (.mk kd it tx xs ns) i=swapV (.mk kd it tx xs ns) i nullV:=if_pos hc6;rw [hw];exact (encV_eq _).symm
 ·
  simp at hc6;have hk7:kd=7:=by rcases hk with h | h;exact absurd h hc6;exact h
  have hn7:=may7k hmy hk7;refine WP.skip (hK4 _ (wr (uf th27 th25 hb2_3 ?_)));refine ul th25 hb2_3 ?_;refine u_step (o_rcall (s114r (encVs xs) (by intro e;rw [e] at hln;simp at hln;omega) (by omega)) rfl fun q11 o11 nk11 hqa11 hqb11 hb11 hk11=>?_);have hb2_11:=(hk11 _ (by omega)).trans hb2_3;have hb3_11:=(hk11 _ (by omega)).trans hb3;refine um (um ?_);refine u_step (o_bin_int rfl rfl (by decide) (addN (by omega)) ?_);refine u_step (g_vcall (s113 (encVs xs) i _ _ _ hb11 (by omega) (by omega) (by omega)) rfl fun o12 nk12 hn12 hb12 hk12=>?_);have hb2_12:=(hk12 _ (by omega) (by omega)).trans hb2_11;have hb3_12:=(hk12 _ (by omega) (by omega)).trans hb3_11;refine uf th27 th25 hb2_12 ?_;refine u_step0 (g_stW rfl rfl hb12 th25 rfl hb2_12 (by simp) fun o13 hb13 hk13=>?_);have hb3_13:=(hk13 _ (by omega)).trans hb3_12;have hb12_13:=(hk13 _ (by omega)).trans hb12;refine u_nil (wr (uf th27 th22 hb13 ?_));refine ul th22 hb13 ?_;refine u_step (o_rcall (s57r (ns.map D.str) (by intro e;have:=congrArg List.length e;simp at this;simp [this] at hn7;omega) (by simp;omega)) rfl fun q15 o15 nk15 hqa15 hqb15 hb15 hk15=>?_);have hb3_15:=(hk15 _ (by omega)).trans hb3_13;have hb12_15:=(hk15 _ (by omega)).trans hb12_13;have hb13_15:=(hk15 _ (by omega)).trans hb13;refine um (um ?_);refine u_step (o_bin_int rfl rfl (by decide) (addN (by omega)) ?_);refine u_step (g_vcall (s115 (ns.map D.str) i _ _ _ hb15 (by omega) (by simp;omega) (by simp;omega)) rfl fun o16 nk16 hn16 hb16 hk16=>?_);have hb3_16:=(hk16 _ (by omega) (by omega)).trans hb3_15;have hb12_16:=(hk16 _ (by omega) (by omega)).trans hb12_15;have hb13_16:=(hk16 _ (by omega) (by omega)).trans hb13_15;refine uf th27 th22 hb13_16 ?_;refine u_step0 (g_stW rfl rfl hb16 th22 rfl hb13_16 (by simp) fun o17 hb17 hk17=>?_);have hb3_17:=(hk17 _ (by omega)).trans hb3_16;have hb12_17:=(hk17 _ (by omega)).trans hb12_16;have hb16_17:=(hk17 _ (by omega)).trans hb16;refine u_nil ?_;have hne:¬ q15=q11:=by omega
  have hln2:i < (encVs xs).length:=by omega
  have hln3:i < (ns.map D.str).length:=by simp;omega
  have hF0:∀ t,t < nk→o17 t=o t:=(fun t ht=>(hk17 t (by omega)).trans ((hk16 t (by omega) (by omega)).trans ((hk15 t (by omega)).trans ((hk13 t (by omega)).trans ((hk12 t (by omega) (by omega)).trans ((hk11 t (by omega)).trans ((hk3 t (by omega)).trans ((hk2 t (by omega))))))))));have hB7:o17 nk=some (.box [.d (.int .i64 kd),.d (.int .i64 it),.d (.str tx),.view q11 0 (i+((encVs xs).length - (i+1))) .full,.view q15 0 (i+((ns.map D.str).length - (i+1))) .full]):=hb17;refine WP.frzL [(2,.loc nk 0),(4,.loc (nk+1) 0)] nk hb12_17 (by simp only [List.forall_mem_cons];exact ⟨rfl,rfl,by simp⟩) fun o8 h81 h82=>?_;have hB8:o8 nk=some (.box [.d (.int .i64 kd),.d (.int .i64 it),.d (.str tx),.d (.sl 5 (encVs (xs.eraseIdx i))),.view q15 0 (i+((ns.map D.str).length - (i+1))) .full]):=by rw [h82 nk (by omega) (Nat.le_refl _),hB7];simp only [Option.map_some,AO.frz,List.map_cons,List.map_nil,SV.frz,if_true,if_neg hne];rw [delPart hln2,encVs_erase]
  have hR8:o8 q15=some (.row 9 1 (delB (.str []) (ns.map D.str) i)):=by rw [h82 q15 (by omega) (by omega),hb16_17];rfl
  have hZ8:o8 (nk+1)=some (.box [.d (.int .i64 0),.d (.int .i64 0),.d (.str []),.d .nil,.d .nil]):=by rw [h82 (nk+1) (by omega) (by omega),hb3_17];rfl
  refine WP.frzL [(2,.loc nk 0),(4,.loc (nk+1) 0)] nk hR8 (by simp only [List.forall_mem_cons];exact ⟨rfl,rfl,by simp⟩) fun o9 h91 h92=>?_;have hB9:o9 nk=some (.box [.d (.int .i64 kd),.d (.int .i64 it),.d (.str tx),.d (.sl 5 (encVs (xs.eraseIdx i))),.d (.sl 1 ((ns.eraseIdx i).map D.str))]):=by rw [h92 nk (by omega) (Nat.le_refl _),hB8];simp only [Option.map_some,AO.frz,List.map_cons,List.map_nil,SV.frz,if_true];rw [delPart hln3,strs_erase]
  have hZ9:o9 (nk+1)=some (.box [.d (.int .i64 0),.d (.int .i64 0),.d (.str []),.d .nil,.d .nil]):=by rw [h92 (nk+1) (by omega) (by omega),hZ8];rfl
  have hF9:∀ t,t < nk→o9 t=o t:=fun t ht=>(h91 t (by omega) ht).trans ((h81 t (by omega) ht).trans (hF0 t ht));refine wr (ug th27 hB9 ?_);refine u_step0 (g_sta rfl rfl th27 rfl hZ9 (by first | (simp;done) | (simp [D.leaves,D.width,valCells];done) | decide) fun o19 hb19 hk19=>?_);have hB9_19:=(hk19 _ (by omega)).trans hB9;refine u_nil (WP.ret ?_);refine retC1_ok (resis_agg rfl th27 rfl hb19 rfl rfl rfl) ?_ (by omega) (fun t ht=>(hk19 t (by omega)).trans ((hF9 t (by omega))));have hw:withoutV (.mk kd it tx xs ns) i=.mk kd it tx (xs.eraseIdx i) (ns.eraseIdx i):=if_neg (by show ¬ kd=6;omega);rw [hw];rfl
def atV (f:Val→Nat→Val):Val→List Str→Val
 | v,[]=>v
 | v,s :: p=>if placeV v s < 0 then v else if p=[] then f v (placeV v s).toNat else swapV v (placeV v s).toNat (atV f (v.items.getD (placeV v s).toNat v) p)
theorem at_no {f:Val→Nat→Val} {v:Val} {s:Str} {p:List Str} (h:placeV v s < 0):atV f v (s :: p)=v:=by rw [atV,if_pos h]
theorem at_in {f:Val→Nat→Val} {v y:Val} {s:Str} {p:List Str} (h:¬ placeV v s < 0) (hp:¬ p=[]) (hy:v.items[(placeV v s).toNat]?=some y):atV f v (s :: p)=swapV v (placeV v s).toNat (atV f y p):=by
 rw [atV,if_neg h,if_neg hp,List.getD_eq_getElem?_getD,hy];rfl
theorem at_do {f:Val→Nat→Val} {v:Val} {s:Str} (h:¬ placeV v s < 0):atV f v [s]=f v (placeV v s).toNat:=by rw [atV,if_neg h,if_pos rfl]
theorem place_kind {v:Val} {s:Str} (h:0≤placeV v s):v.kind=6∨v.kind=7:=by
 unfold placeV at h;split at h
 ·right;assumption
 ·split at h
  ·left;assumption
  ·omega
def DoOk (g:FuncId) (fs cs:List SV) (f:Val→Nat→Val) (ks:List Nat) (o0:Nat→Option AO):Prop:=
 ∀ (o:Nat→Option AO) (nk:Nat) (v:Val) (i:Int),(∀ t,t∈ks→t < nk∧o t=o0 t)→0≤i→i.toNat < v.items.length→mayV v=true→(v.kind=6∨v.kind=7)→szV v≤1099511627776→Spec Try.prog g (fs++[.d (encV v),.d (.int .i64 i)]++cs) o nk fun r' o' nk'=>r'=.d (encV (f v i.toNat))∧o'=o∧nk'=nk
theorem s94i (v:Val) (i:Int) (x:Val) (h0:0≤i) (hj:i.toNat < v.items.length) (hsz:szV v≤1099511627776):PSpec Try.prog 94 [.d (encV v),.d (.int .i64 i),.d (encV x)] (.d (encV (swapV v i.toNat x))):=by
 have h:=s94 v i.toNat x hj hsz;rw [Int.toNat_of_nonneg h0] at h;exact h
theorem fn91:FnOkC Try.prog 91 37 [.cell 6 27] (bodyOf Try.f91):=⟨Try.f91,Try.func91,by kernel_rfl,by decide,by kernel_rfl,by kernel_rfl⟩
theorem s91s (g:FuncId) (fs cs:List SV) (f:Val→Nat→Val) (ks:List Nat) (o0:Nat→Option AO) (hdo:DoOk g fs cs f ks o0) (s:Str) (p:List Str) (v:Val) (o:Nat→Option AO) (nk:Nat) (hks:∀ t,t∈ks→t < nk∧o t=o0 t) (hmy:mayV v=true) (hsz:szV v≤1099511627776) (ih:¬ p=[]→∀ (v1:Val) (o1:Nat→Option AO) (nk1:Nat),(∀ t,t∈ks→t < nk1∧o1 t=o0 t)→mayV v1=true→szV v1≤1099511627776→Spec Try.prog 91 [.d (encV v1),.d (.sl 1 (p.map .str)),.clo g fs cs] o1 nk1 (fun r' o' nk'=>r'=.d (encV (atV f v1 p))∧o'=o1∧nk'=nk1)):Spec Try.prog 91 [.d (encV v),.d (.sl 1 ((s :: p).map .str)),.clo g fs cs] o nk (fun r' o' nk'=>r'=.d (encV (atV f v (s :: p)))∧o'=o∧nk'=nk):=by
 obtain ⟨kd,it,tx,xs,ns⟩:=v;refine Spec.pure (fun _=>trivial) rfl (Spec.of_bodyC tabOk fn91 (by simp) ?_);refine wr ?_;refine u_step (g_box rfl fun o2 hb2 hk2=>?_);refine u_step (g_alloc th27 rfl fun o3 hb3 hk3=>?_);have hb2_3:=(hk3 _ (by omega)).trans hb2;refine u_nil (wd ?_);refine dg th27 hb2_3 ?_;refine dm ?_;refine d_step (o_ia_sl rfl rfl th22 rfl th9 rfl (by decide) rfl ⟨rfl,rfl,rfl⟩) ?_;refine dL th9 ?_;refine d_step (o_pcall (s69 (.mk kd it tx xs ns) s) rfl ⟨rfl,rfl,rfl⟩) ?_;refine da ?_;refine d_nil ?_;refine WP.seq fun K5 hK5=>?_;refine WP.block (wr (um (ub (ua (u_nil ?_)))));refine wc (fun hc7=>?_) (fun hc7=>?_)
 ·
  simp at hc7;have h0:placeV (.mk kd it tx xs ns) s < 0:=hc7;refine wr (ug th27 hb2_3 ?_);refine u_step0 (g_sta rfl rfl th27 rfl hb3 (by first | (simp;done) | (simp [D.leaves,D.width,valCells];done) | decide) fun o9 hb9 hk9=>?_);have hb2_9:=(hk9 _ (by omega)).trans hb2_3;refine u_nil (WP.ret ?_);refine retC1_ok (resis_agg rfl th27 rfl hb9 rfl rfl rfl) ?_ (by omega) (fun t ht=>(hk9 t (by omega)).trans ((hk3 t (by omega)).trans ((hk2 t (by omega)))));rw [at_no h0];first | rfl | exact (encV_eq _).symm
 ·
  simp at hc7;have h0:¬ placeV (.mk kd it tx xs ns) s < 0:=by omega
  have hlt:=place_lt hmy s;obtain ⟨y,hy⟩:∃ y,xs[(placeV (.mk kd it tx xs ns) s).toNat]?=some y:=item_ex (xs:=xs) (j:=(placeV (.mk kd it tx xs ns) s).toNat) (by simp only [Val.items] at hlt;omega);have hym:mayV y=true:=may_item hmy (List.mem_of_getElem? hy);have hys:=sz_item (v:=(.mk kd it tx xs ns)) hy;refine wr (um (un th22 ?_));refine ub (ua (u_nil ?_));refine wc (fun hc11=>?_) (fun hc11=>?_)
  ·
   simp at hc11;have hp:¬ p=[]:=by intro e;subst e;simp at hc11
   refine WP.seq fun K12 hK12=>?_;have hF5:∀ t,t < nk→o3 t=o t:=(fun t ht=>(hk3 t (by omega)).trans ((hk2 t (by omega))));have hks5:∀ t,t∈ks→t < ((nk+1)+1)∧o3 t=o0 t:=fun t ht=>⟨by have:=(hks t ht).1;omega,(hF5 t (hks t ht).1).trans (hks t ht).2⟩;refine WP.dr1 [.q 0 0,.q 0 0,.q 0 0,.q 0 0,.q 0 0,.q 0 0,.q 0 0,.q 0 0,.q 0 0,.q 0 0,.q 0 0,.q 0 0,.w 0] [12] ((nk+1)+1) tabOk (by kernel_rfl) rfl (by kernel_rfl) (by kernel_rfl) ?_;apply Exists.intro;refine e_step rfl (o_ld_agg rfl th27 rfl hb2_3 rfl rfl rfl ⟨rfl,rfl,rfl⟩) ?_;refine e_step rfl (o_move rfl ⟨rfl,rfl,rfl⟩) ?_;refine e_step rfl (o_fa_loc rfl th27 rfl rfl th25 (by decide) hb2_3 ⟨rfl,rfl,rfl⟩) ?_;refine e_step rfl (o_ld_loc rfl th25 rfl hb2_3 rfl ⟨rfl,rfl,rfl⟩) ?_;refine e_step rfl (o_move rfl ⟨rfl,rfl,rfl⟩) ?_;refine e_step rfl (o_ia_sl (a:=encV y) rfl rfl th25 rfl th27 rfl (by omega) (items_at (v:=(.mk kd it tx xs ns)) hy) ⟨rfl,rfl,rfl⟩) ?_;refine e_step rfl (o_ld_el rfl th27 (by simp only [encV_leaf,TK.agg,Bool.not_true]) (by simp only [encV_width]) ⟨rfl,rfl,rfl⟩) ?_;refine e_step rfl (o_move rfl ⟨rfl,rfl,rfl⟩) ?_;refine e_step rfl (o_sl_tl rfl rfl th22 rfl th9 rfl ⟨rfl,rfl,rfl⟩) ?_;refine e_step rfl (o_moveV (v:=.clo _ _ _) rfl ⟨rfl,rfl,rfl⟩) ?_;refine e_step rfl (o_scall (ih hp y _ _ hks5 hym (by omega)) rfl ⟨rfl,rfl,rfl⟩) ?_;refine e_step rfl (o_pcall (s94i (.mk kd it tx xs ns) (placeV (.mk kd it tx xs ns) s) _ (by omega) (by simp only [Val.items] at hlt ⊢;omega) hsz) rfl ⟨rfl,rfl,rfl⟩) ?_;refine e_w0 rfl rfl (o_st_agg rfl (congrArg SV.d (encV_eq _)) th27 rfl hb3 (by simp [valCells]) ⟨rfl,rfl,rfl⟩) ?_;refine e_nil rfl fun o14 ho14=>?_;have hbb2_14:=(ho14 _).trans ((upd_ne _ _ (by omega)).trans hb2_3);have hbb3_14:=(ho14 _).trans (upd_same _ _ _);have hk14:∀ t,t < nk→o14 t=o3 t:=fun t ht=>(ho14 t).trans (upd_ne _ _ (by omega));refine hK12 _ (WP.ret ?_);refine retC1_ok (resis_agg rfl th27 rfl hbb3_14 rfl rfl rfl) ?_ (by omega) (fun t ht=>(hk14 t (by omega)).trans ((hk3 t (by omega)).trans ((hk2 t (by omega)))));rw [at_in h0 hp hy];first | rfl | exact (encV_eq _).symm
  ·
   simp at hc11;have hp:p=[]:=List.length_eq_zero_iff.1 (by omega);refine WP.skip (hK5 _ ?_);have hF6:∀ t,t < nk→o3 t=o t:=(fun t ht=>(hk3 t (by omega)).trans ((hk2 t (by omega))));have hks6:∀ t,t∈ks→t < ((nk+1)+1)∧o3 t=o0 t:=fun t ht=>⟨by have:=(hks t ht).1;omega,(hF6 t (hks t ht).1).trans (hks t ht).2⟩;refine wr ?_;refine u_step (o_moveV (v:=.clo _ _ _) rfl ?_);refine ug th27 hb2_3 ?_;refine um ?_;refine u_step (o_sclo rfl (hdo _ _ (.mk kd it tx xs ns) (placeV (.mk kd it tx xs ns) s) hks6 (by omega) (by simp only [Val.items] at hlt ⊢;omega) hmy (place_kind (by omega)) hsz) rfl ?_);refine u_step0 (g_sta rfl (congrArg SV.d (encV_eq _)) th27 rfl hb3 (by simp [valCells]) fun o16 hb16 hk16=>?_);have hb2_16:=(hk16 _ (by omega)).trans hb2_3;refine u_nil (WP.ret ?_);subst hp;refine retC1_ok (resis_agg rfl th27 rfl hb16 rfl rfl rfl) ?_ (by omega) (fun t ht=>(hk16 t (by omega)).trans ((hk3 t (by omega)).trans ((hk2 t (by omega)))));rw [at_do h0];first | rfl | exact (encV_eq _).symm
theorem s91 (g:FuncId) (fs cs:List SV) (f:Val→Nat→Val) (ks:List Nat) (o0:Nat→Option AO) (hdo:DoOk g fs cs f ks o0):∀ (p:List Str) (v:Val) (o:Nat→Option AO) (nk:Nat),¬ p=[]→(∀ t,t∈ks→t < nk∧o t=o0 t)→mayV v=true→szV v≤1099511627776→Spec Try.prog 91 [.d (encV v),.d (.sl 1 (p.map .str)),.clo g fs cs] o nk (fun r' o' nk'=>r'=.d (encV (atV f v p))∧o'=o∧nk'=nk)
 | [],_,_,_,h,_,_,_=>absurd rfl h
 | s :: p,v,o,nk,_,hks,hmy,hsz=>s91s g fs cs f ks o0 hdo s p v o nk hks hmy hsz fun hp v1 o1 nk1 h1 h2 h3=>s91 g fs cs f ks o0 hdo p v1 o1 nk1 hp h1 h2 h3
theorem path_ne {p:List Str} (h:pathV p=true):¬ p=[]:=by rintro rfl;simp [pathV] at h
theorem do_without (o0:Nat→Option AO):DoOk 92 [] [] withoutV [] o0:=fun o nk v i _ h0 hi hm hk hsz=>by
 have h:=s92 v i.toNat hi hm hk hsz;rw [Int.toNat_of_nonneg h0] at h;exact h o nk
def dropD (v:Val) (p:List Str):D:=if chkT v p=0 then encV (atV withoutV v p) else zAgg
def cutI (n:Nat) (y:Val):Val:=.mk y.kind y.int y.text (y.items.take n) y.names
def cutV (n:Nat) (v:Val) (i:Nat):Val:=if (v.items.getD i v).kind≠6∨(v.items.getD i v).items.length≤n then v else swapV v i (cutI n (v.items.getD i v))
theorem encVs_take (xs:List Val) (n:Nat):(encVs xs).take n=encVs (xs.take n):=by rw [encVs_map,encVs_map,List.map_take]
theorem o_sl_hdV {P:Program} {Θ:Tab} {K:SV→(Nat→Option AO)→Nat→Prop} {sl:Nat→SV} {o:Nat→Option AO} {nk:Nat} {x hi2:Operand} {t e:Nat} {i j:TI} {z:Nat} {ys:List Val} {n:Int} (hx:ev sl x=.d (.sl z (encVs ys))) (hhi:ev sl hi2=.d (.int .i64 n)) (hi:Θ t=some i) (hk:i.k=.slice e) (hj:Θ e=some j) (hz:j.sz=z) (h0:0≤n) (hn:n.toNat≤ys.length) (h:K (.d (.sl z (encVs (ys.take n.toNat)))) o nk):vOp P Θ (.slice t x none (some hi2) none) ⟨sl,o,nk⟩ K:=by
 refine o_sl_sl (m:=n.toNat) (p:=0) hx hi hk hj hz ?_ rfl ?_
 ·simp only [Option.map_some,bndO,hhi,bnd,encVs_length];rw [if_pos (by omega)]
 ·rw [List.drop_zero,encVs_take];exact h
theorem cut_no {n:Nat} {v y:Val} {i:Nat} (hy:v.items[i]?=some y) (h:y.kind≠6∨y.items.length≤n):cutV n v i=v:=by
 have e:v.items.getD i v=y:=by rw [List.getD_eq_getElem?_getD,hy];rfl
 rw [cutV,e,if_pos h]
theorem cut_yes {n:Nat} {v y:Val} {i:Nat} (hy:v.items[i]?=some y) (h:¬ (y.kind≠6∨y.items.length≤n)):cutV n v i=swapV v i (cutI n y):=by
 have e:v.items.getD i v=y:=by rw [List.getD_eq_getElem?_getD,hy];rfl
 rw [cutV,e,if_neg h]
def cutD (v:Val) (p:List Str) (n:Int):D:=if chkT v p=0∧0≤n then encV (atV (cutV n.toNat) v p) else zAgg
def cutE (v:Val) (p:List Str) (n:Int):Int:=if chkT v p=0 then (if n < 0 then 1 else 0) else chkT v p
theorem fn62:FnOkC Try.prog 62 18 [.cell 4 27,.tmp 5] (bodyOf Try.f62):=⟨Try.f62,Try.func62,by kernel_rfl,by decide,by kernel_rfl,by kernel_rfl⟩
theorem s62 (v:Val) (p:List Str) (hsz:szV v≤1099511627776) (hsr:mayV v=true→szV (atV withoutV v p)≤1099511627776):PSpec Try.prog 62 [.d (encV v),.d (.sl 1 (p.map .str))] (.tup (([dropD v p,.int .i64 (chkT v p)]).map .d)):=by
 obtain ⟨kd,it,tx,xs,ns⟩:=v;refine PSpec.of2C tabOk fn62 (by simp) fun o nk=>?_;refine wr ?_;refine u_step (g_box rfl fun o2 hb2 hk2=>?_);refine u_step (g_alloc th27 rfl fun o3 hb3 hk3=>?_);have hb2_3:=(hk3 _ (by omega)).trans hb2;refine ua ?_;refine u_nil ?_;refine WP.seq fun K4 hK4=>?_;refine wr ?_;refine ug th27 hb2_3 ?_;refine um ?_;refine u_step (o_pcall (s68 (.mk kd it tx xs ns) p) rfl ?_);refine ua ?_;refine u_nil ?_;refine wr ?_;refine um ?_;refine ub ?_;refine u_nil ?_;refine wc (fun hc7=>?_) (fun hc7=>?_) <;> try simp only [Q0,Q1,Q2,Q3,Q4,Q5,Q6,Q7,Q8,ge_iff_le,gt_iff_lt] at hc7
 ·
  have hz:¬ chkT (.mk kd it tx xs ns) p=0:=by have hgo:=hc7;intro e;unfold chkT at e;rw [e] at hgo;simp at hgo
  refine wr ?_;refine u_step (o_bu rfl th27 rfl rfl ?_);refine um ?_;refine u_step0 (g_sta rfl rfl th27 rfl hb3 (by first | (simp;done) | (simp [D.leaves,D.width,valCells];done) | decide) fun o9 hb9 hk9=>?_);have hb2_9:=(hk9 _ (by omega)).trans hb2_3;refine ua (u_nil (WP.ret ?_));refine retC_ok (resis_agg rfl th27 rfl hb9 rfl rfl rfl) rfl ?_ ?_ (by omega) (fun t ht=>(hk9 t (by omega)).trans ((hk3 t (by omega)).trans ((hk2 t (by omega)))))
  ·rw [dropD,if_neg hz];rfl
  ·rfl
 ·
  have hz:chkT (.mk kd it tx xs ns) p=0:=by have hgo:=hc7;unfold chkT;simpa using hgo
  refine WP.skip (hK4 _ (wr (ug th27 hb2_3 ?_)));refine um ?_;refine u_step (o_scall (s91 92 [] [] withoutV [] (fun _=>none) (do_without _) p (.mk kd it tx xs ns) _ _ (path_ne (chkT_may hz).2.2) (fun t ht=>by cases ht) (chkT_may hz).1 hsz) rfl ?_);refine u_step (o_pcall (s35 _ (hsr (chkT_may hz).1)) rfl ?_);refine u_step0 (g_sta rfl (congrArg SV.d (encV_eq _)) th27 rfl hb3 (by simp [valCells]) fun o11 hb11 hk11=>?_);have hb2_11:=(hk11 _ (by omega)).trans hb2_3;refine ua (u_nil (WP.ret ?_));refine retC_ok (resis_agg rfl th27 rfl hb11 rfl rfl rfl) rfl ?_ ?_ (by omega) (fun t ht=>(hk11 t (by omega)).trans ((hk3 t (by omega)).trans ((hk2 t (by omega)))))
  ·rw [dropD,if_pos hz];first | rfl | exact (encV_eq _).symm
  ·rw [hz]
theorem fn93:FnOkC Try.prog 93 32 [.cell 5 27] (bodyOf Try.f93):=⟨Try.f93,Try.func93,by kernel_rfl,by decide,by kernel_rfl,by kernel_rfl⟩
theorem s93 (v:Val) (i:Int) (n:Int) (k:Nat) (o:Nat→Option AO) (nk:Nat) (hkn:k < nk) (hK:o k=some (.box [.d (.int .i64 n)])) (hn:0≤n) (h0:0≤i) (hi:i.toNat < v.items.length) (hsz:szV v≤1099511627776):Spec Try.prog 93 [.d (encV v),.d (.int .i64 i),.loc k 0] o nk (fun r' o' nk'=>r'=.d (encV (cutV n.toNat v i.toNat))∧o'=o∧nk'=nk):=by
 obtain ⟨kd,it,tx,xs,ns⟩:=v;obtain ⟨y,hy⟩:∃ y,xs[i.toNat]?=some y:=item_ex (xs:=xs) (j:=i.toNat) hi;obtain ⟨ky,iy,ty,ys,ny⟩:=y;refine Spec.pure (fun _=>trivial) rfl (Spec.of_bodyC tabOk fn93 (by simp) ?_);refine wr ?_;refine u_step (g_box rfl fun o2 hb2 hk2=>?_);have hK_2:=(hk2 _ (by omega)).trans hK;refine u_step (g_alloc th27 rfl fun o3 hb3 hk3=>?_);have hK_3:=(hk3 _ (by omega)).trans hK_2;have hb2_3:=(hk3 _ (by omega)).trans hb2;refine u_nil (wr (uf th27 th25 hb2_3 ?_));refine ul th25 hb2_3 ?_;refine um ?_;refine u_step (o_ia_sl (a:=encV (.mk ky iy ty ys ny)) rfl rfl th25 rfl th27 rfl h0 (items_at (v:=(.mk kd it tx xs ns)) hy) ?_);refine uL th27 ?_;refine u_step (g_alloc th27 rfl fun o5 hb5 hk5=>?_);have hK_5:=(hk5 _ (by omega)).trans hK_3;have hb2_5:=(hk5 _ (by omega)).trans hb2_3;have hb3_5:=(hk5 _ (by omega)).trans hb3;refine u_step0 (g_sta rfl rfl th27 rfl hb5 (by first | (simp;done) | (simp [D.leaves,D.width,valCells];done) | decide) fun o6 hb6 hk6=>?_);have hK_6:=(hk6 _ (by omega)).trans hK_5;have hb2_6:=(hk6 _ (by omega)).trans hb2_5;have hb3_6:=(hk6 _ (by omega)).trans hb3_5;refine u_nil (WP.seq fun K7 hK7=>?_);refine wr (uf th27 th3 hb6 ?_);refine ul th3 hb6 ?_;refine ub (um ?_);apply gF
 ·rfl
 ·intro hg;exact pf th27 th25 hb6
 apply gF
 ·rfl
 ·intro hg;try simp only [hg,ct,Bt]
  exact pl th25 hb6
 apply gF
 ·rfl
 ·intro hg;try simp only [hg,ct,Bt]
  exact pn th25
 apply gF
 ·rfl
 ·intro hg;exact pl th3 hK_6
 apply gF
 ·rfl
 ·intro hg;try simp only [hg,ct,Bt]
  exact pb
 refine uO ?_;refine u_nil ?_;refine wc (fun hc9=>?_) (fun hc9=>?_) <;> try simp only [Q0,Q1,Q2,Q3,Q4,Q5,Q6,Q7,Q8,ge_iff_le,gt_iff_lt] at hc9
 ·
  have hgA:ky≠6∨ys.length≤n.toNat:=by have hgo:=hc9;simp [encVs_length] at hgo;omega
  refine wr (ug th27 hb2_6 ?_);refine u_step0 (g_sta rfl rfl th27 rfl hb3_6 (by first | (simp;done) | (simp [D.leaves,D.width,valCells];done) | decide) fun o11 hb11 hk11=>?_);have hK_11:=(hk11 _ (by omega)).trans hK_6;have hb2_11:=(hk11 _ (by omega)).trans hb2_6;have hb6_11:=(hk11 _ (by omega)).trans hb6;refine u_nil (WP.ret ?_);refine retC1_ok (resis_agg rfl th27 rfl hb11 rfl rfl rfl) ?_ (by omega) (fun t ht=>(hk11 t (by omega)).trans ((hk6 t (by omega)).trans ((hk5 t (by omega)).trans ((hk3 t (by omega)).trans ((hk2 t (by omega)))))));rw [cut_no (v:=(.mk kd it tx xs ns)) hy hgA];first | rfl | exact (encV_eq _).symm
 ·
  have hgA:¬ (ky≠6∨ys.length≤n.toNat):=by have hgo:=hc9;simp [encVs_length] at hgo;omega
  refine WP.skip (hK7 _ (wr (uf th27 th25 hb6 ?_)));refine ul th25 hb6 ?_;refine ul th3 hK_6 ?_;refine u_step (o_sl_hdV rfl rfl th25 rfl th27 rfl hn (by omega) ?_);refine uf th27 th25 hb6 ?_;refine u_step0 (g_st rfl rfl rfl th25 rfl hb6 (by simp) fun o13 hb13 hk13=>?_);have hK_13:=(hk13 _ (by omega)).trans hK_6;have hb2_13:=(hk13 _ (by omega)).trans hb2_6;have hb3_13:=(hk13 _ (by omega)).trans hb3_6;refine u_nil (wr (ug th27 hb2_13 ?_));refine um (ug th27 hb13 ?_);refine u_step (o_pcall (s94i (.mk kd it tx xs ns) i (cutI n.toNat (.mk ky iy ty ys ny)) h0 hi hsz) rfl ?_);refine u_step0 (g_sta rfl (congrArg SV.d (encV_eq _)) th27 rfl hb3_13 (by simp [valCells]) fun o15 hb15 hk15=>?_);have hK_15:=(hk15 _ (by omega)).trans hK_13;have hb2_15:=(hk15 _ (by omega)).trans hb2_13;have hb13_15:=(hk15 _ (by omega)).trans hb13;refine u_nil (WP.ret ?_);refine retC1_ok (resis_agg rfl th27 rfl hb15 rfl rfl rfl) ?_ (by omega) (fun t ht=>(hk15 t (by omega)).trans ((hk13 t (by omega)).trans ((hk6 t (by omega)).trans ((hk5 t (by omega)).trans ((hk3 t (by omega)).trans ((hk2 t (by omega))))))));rw [cut_yes (v:=(.mk kd it tx xs ns)) hy hgA];first | rfl | exact (encV_eq _).symm
theorem do_cut (k:Nat) (n:Int) (o0:Nat→Option AO) (hK:o0 k=some (.box [.d (.int .i64 n)])) (hn:0≤n):DoOk 93 [] [.loc k 0] (cutV n.toNat) [k] o0:=fun o nk v i hks h0 hi hm hk hsz=>
 s93 v i n k o nk (hks k (by simp)).1 ((hks k (by simp)).2.trans hK) hn h0 hi hsz
def doV (v:Val) (d:Dlt):Val:=if d.kind=1 then (setP v d.path d.value).1 else if d.kind=2 then atV withoutV v d.path else atV (cutV d.n.toNat) v d.path
def doE (v:Val) (d:Dlt):Int:=if d.kind=1 then setE v d.path d.value else if d.kind=2 then chkT v d.path else cutE v d.path d.n
theorem setE_0 {v:Val} {p:List Str} {x:Val} (h:setE v p x=0):setD v p x=encV (setP v p x).1:=by
 by_cases hA:v.kind=7∧mayV x=false
 ·rw [(set_a hA).2] at h;cases h
 by_cases hz:chkT v p=0
 ·cases hy:(setP v p x).2 with
  | false=>rw [(set_c hA hz hy).2] at h;cases h
  | true=>exact (set_d hA hz hy).1
 ·rw [(set_b hA hz).2] at h;exact absurd h hz
theorem setE_1 {v:Val} {p:List Str} {x:Val} (h:¬ setE v p x=0):setD v p x=zAgg:=by
 by_cases hA:v.kind=7∧mayV x=false
 ·exact (set_a hA).1
 by_cases hz:chkT v p=0
 ·cases hy:(setP v p x).2 with
  | false=>exact (set_c hA hz hy).1
  | true=>exact absurd (set_d hA hz hy).2 h
 ·exact (set_b hA hz).1
theorem cutE_0 {v:Val} {p:List Str} {n:Int} (h:cutE v p n=0):cutD v p n=encV (atV (cutV n.toNat) v p):=by
 unfold cutE at h;split at h
 ·rename_i hz;split at h
  ·cases h
  ·rw [cutD,if_pos ⟨hz,by omega⟩]
 ·rename_i hz;exact absurd h hz
theorem cutE_1 {v:Val} {p:List Str} {n:Int} (h:¬ cutE v p n=0):cutD v p n=zAgg:=by
 unfold cutE at h;split at h
 ·rename_i hz;split at h
  ·rw [cutD,if_neg (by omega)]
  ·exact absurd rfl h
 ·rename_i hz;rw [cutD,if_neg (fun e=>hz e.1)]
theorem fn63:FnOkC Try.prog 63 26 [.cell 6 27,.tmp 7] (bodyOf Try.f63):=⟨Try.f63,Try.func63,by kernel_rfl,by decide,by kernel_rfl,by kernel_rfl⟩
theorem s63 (v:Val) (p:List Str) (n:Int) (hsz:szV v≤1099511627776) (hsr:mayV v=true→szV (atV (cutV n.toNat) v p)≤1099511627776):PSpec Try.prog 63 [.d (encV v),.d (.sl 1 (p.map .str)),.d (.int .i64 n)] (.tup (([cutD v p n,.int .i64 (cutE v p n)]).map .d)):=by
 obtain ⟨kd,it,tx,xs,ns⟩:=v;refine PSpec.of2C tabOk fn63 (by simp) fun o nk=>?_;refine wr ?_;refine u_step (g_box rfl fun o2 hb2 hk2=>?_);refine u_step (g_box1 rfl rfl fun o3 hb3 hk3=>?_);have hb2_3:=(hk3 _ (by omega)).trans hb2;refine u_step (g_alloc th27 rfl fun o4 hb4 hk4=>?_);have hb2_4:=(hk4 _ (by omega)).trans hb2_3;have hb3_4:=(hk4 _ (by omega)).trans hb3;refine ua ?_;refine u_nil ?_;refine WP.seq fun K5 hK5=>?_;refine wr ?_;refine ug th27 hb2_4 ?_;refine um ?_;refine u_step (o_pcall (s68 (.mk kd it tx xs ns) p) rfl ?_);refine ua ?_;refine u_nil ?_;refine wr ?_;refine um ?_;refine ub ?_;refine u_nil ?_;refine wc (fun hc8=>?_) (fun hc8=>?_) <;> try simp only [Q0,Q1,Q2,Q3,Q4,Q5,Q6,Q7,Q8,ge_iff_le,gt_iff_lt] at hc8
 ·
  have hz:¬ chkT (.mk kd it tx xs ns) p=0:=by have hgo:=hc8;intro e;unfold chkT at e;rw [e] at hgo;simp at hgo
  refine wr ?_;refine u_step (o_bu rfl th27 rfl rfl ?_);refine um ?_;refine u_step0 (g_sta rfl rfl th27 rfl hb4 (by first | (simp;done) | (simp [D.leaves,D.width,valCells];done) | decide) fun o10 hb10 hk10=>?_);have hb2_10:=(hk10 _ (by omega)).trans hb2_4;have hb3_10:=(hk10 _ (by omega)).trans hb3_4;refine ua (u_nil (WP.ret ?_));refine retC_ok (resis_agg rfl th27 rfl hb10 rfl rfl rfl) rfl ?_ ?_ (by omega) (fun t ht=>(hk10 t (by omega)).trans ((hk4 t (by omega)).trans ((hk3 t (by omega)).trans ((hk2 t (by omega))))))
  ·rw [cutD,if_neg (fun e=>hz e.1)];rfl
  ·rw [cutE,if_neg hz];rfl
 ·
  have hz:chkT (.mk kd it tx xs ns) p=0:=by have hgo:=hc8;unfold chkT;simpa using hgo
  refine WP.skip ?_;refine hK5 _ ?_;refine WP.seq fun K11 hK11=>?_;refine wr ?_;refine ul th3 hb3_4 ?_;refine ub ?_;refine u_nil ?_;refine wc (fun hc13=>?_) (fun hc13=>?_) <;> try simp only [Q0,Q1,Q2,Q3,Q4,Q5,Q6,Q7,Q8,ge_iff_le,gt_iff_lt] at hc13
  ·
   have hn0:n < 0:=by have hgo:=hc13;simpa using hgo
   refine wr ?_;refine u_step (o_bu rfl th27 rfl rfl ?_);refine u_step0 (g_sta rfl rfl th27 rfl hb4 (by first | (simp;done) | (simp [D.leaves,D.width,valCells];done) | decide) fun o15 hb15 hk15=>?_);have hb2_15:=(hk15 _ (by omega)).trans hb2_4;have hb3_15:=(hk15 _ (by omega)).trans hb3_4;refine ua (u_nil (WP.ret ?_));refine retC_ok (resis_agg rfl th27 rfl hb15 rfl rfl rfl) rfl ?_ ?_ (by omega) (fun t ht=>(hk15 t (by omega)).trans ((hk4 t (by omega)).trans ((hk3 t (by omega)).trans ((hk2 t (by omega))))))
   ·rw [cutD,if_neg (by omega)];rfl
   ·rw [cutE,if_pos hz,if_pos hn0]
  ·
   have hn0:0≤n:=by have hgo:=hc13;simp at hgo;omega
   refine WP.skip (hK11 _ (wr ?_));refine u_step (o_mf rfl rfl ?_);refine u_step (o_assignV (v:=.clo _ _ _) rfl ?_);refine u_nil (wr (ug th27 hb2_4 ?_));refine um ?_;refine u_step (o_moveV (v:=.clo _ _ _) rfl ?_);refine u_step (o_scall (s91 93 [] [.loc (nk+1) 0] (cutV n.toNat) [nk+1] o4 (do_cut (nk+1) n _ hb3_4 hn0) p (.mk kd it tx xs ns) _ _ (path_ne (chkT_may hz).2.2) (fun t ht=>by rw [List.mem_singleton.1 ht];exact ⟨by omega,rfl⟩) (chkT_may hz).1 hsz) rfl ?_);refine u_step (o_pcall (s35 _ (hsr (chkT_may hz).1)) rfl ?_);refine u_step0 (g_sta rfl (congrArg SV.d (encV_eq _)) th27 rfl hb4 (by simp [valCells]) fun o18 hb18 hk18=>?_);have hb2_18:=(hk18 _ (by omega)).trans hb2_4;have hb3_18:=(hk18 _ (by omega)).trans hb3_4;refine ua (u_nil (WP.ret ?_));refine retC_ok (resis_agg rfl th27 rfl hb18 rfl rfl rfl) rfl ?_ ?_ (by omega) (fun t ht=>(hk18 t (by omega)).trans ((hk4 t (by omega)).trans ((hk3 t (by omega)).trans ((hk2 t (by omega))))))
   ·rw [cutD,if_pos ⟨hz,hn0⟩];first | rfl | exact (encV_eq _).symm
   ·rw [cutE,if_pos hz,if_neg (by omega)]
theorem s61y (v:Val) (d:Dlt) (h1:d.kind=1) (hsz:szV v≤1099511627776) (hsr:mayV v=true→szV (doV v d)≤1099511627776) (he:doE v d=0):PSpec Try.prog 61 [.d (encV v),.d (.sl 1 (d.path.map .str)),.d (.agg (valCells d.value))] (.tup ([encV (doV v d),.int .i64 0].map .d)):=by
 have e1:doV v d=(setP v d.path d.value).1:=if_pos h1;have e2:doE v d=setE v d.path d.value:=if_pos h1;rw [e1] at hsr;rw [e2] at he;have h:=s61 v d.path d.value hsz hsr;rw [setE_0 he,he,encV_eq d.value] at h;rw [e1];exact h
theorem s61n (v:Val) (d:Dlt) (h1:d.kind=1) (hsz:szV v≤1099511627776) (hsr:mayV v=true→szV (doV v d)≤1099511627776) (he:¬ doE v d=0):PSpec Try.prog 61 [.d (encV v),.d (.sl 1 (d.path.map .str)),.d (.agg (valCells d.value))] (.tup ([zAgg,.int .i64 (doE v d)].map .d)):=by
 have e1:doV v d=(setP v d.path d.value).1:=if_pos h1;have e2:doE v d=setE v d.path d.value:=if_pos h1;rw [e1] at hsr;rw [e2] at he;have h:=s61 v d.path d.value hsz hsr;rw [setE_1 he,encV_eq d.value] at h;rw [e2];exact h
theorem s62y (v:Val) (d:Dlt) (h1:¬ d.kind=1) (h2:d.kind=2) (hsz:szV v≤1099511627776) (hsr:mayV v=true→szV (doV v d)≤1099511627776) (he:doE v d=0):PSpec Try.prog 62 [.d (encV v),.d (.sl 1 (d.path.map .str))] (.tup ([encV (doV v d),.int .i64 0].map .d)):=by
 have e1:doV v d=atV withoutV v d.path:=(if_neg h1).trans (if_pos h2);have e2:doE v d=chkT v d.path:=(if_neg h1).trans (if_pos h2);rw [e1] at hsr;rw [e2] at he;have h:=s62 v d.path hsz hsr;rw [show dropD v d.path=encV (atV withoutV v d.path) from if_pos he,he] at h;rw [e1];exact h
theorem s62n (v:Val) (d:Dlt) (h1:¬ d.kind=1) (h2:d.kind=2) (hsz:szV v≤1099511627776) (hsr:mayV v=true→szV (doV v d)≤1099511627776) (he:¬ doE v d=0):PSpec Try.prog 62 [.d (encV v),.d (.sl 1 (d.path.map .str))] (.tup ([zAgg,.int .i64 (doE v d)].map .d)):=by
 have e1:doV v d=atV withoutV v d.path:=(if_neg h1).trans (if_pos h2);have e2:doE v d=chkT v d.path:=(if_neg h1).trans (if_pos h2);rw [e1] at hsr;rw [e2] at he;have h:=s62 v d.path hsz hsr;rw [show dropD v d.path=zAgg from if_neg he] at h;rw [e2];exact h
theorem s63y (v:Val) (d:Dlt) (h1:¬ d.kind=1) (h2:¬ d.kind=2) (hsz:szV v≤1099511627776) (hsr:mayV v=true→szV (doV v d)≤1099511627776) (he:doE v d=0):PSpec Try.prog 63 [.d (encV v),.d (.sl 1 (d.path.map .str)),.d (.int .i64 d.n)] (.tup ([encV (doV v d),.int .i64 0].map .d)):=by
 have e1:doV v d=atV (cutV d.n.toNat) v d.path:=(if_neg h1).trans (if_neg h2);have e2:doE v d=cutE v d.path d.n:=(if_neg h1).trans (if_neg h2);rw [e1] at hsr;rw [e2] at he;have h:=s63 v d.path d.n hsz hsr;rw [cutE_0 he,he] at h;rw [e1];exact h
theorem s63n (v:Val) (d:Dlt) (h1:¬ d.kind=1) (h2:¬ d.kind=2) (hsz:szV v≤1099511627776) (hsr:mayV v=true→szV (doV v d)≤1099511627776) (he:¬ doE v d=0):PSpec Try.prog 63 [.d (encV v),.d (.sl 1 (d.path.map .str)),.d (.int .i64 d.n)] (.tup ([zAgg,.int .i64 (doE v d)].map .d)):=by
 have e1:doV v d=atV (cutV d.n.toNat) v d.path:=(if_neg h1).trans (if_neg h2);have e2:doE v d=cutE v d.path d.n:=(if_neg h1).trans (if_neg h2);rw [e1] at hsr;rw [e2] at he;have h:=s63 v d.path d.n hsz hsr;rw [cutE_1 he] at h;rw [e2];exact h
theorem fn36:FnOkC Try.prog 36 34 [.cell 4 27,.tmp 5] (bodyOf Try.f36):=⟨Try.f36,Try.func36,by kernel_rfl,by decide,by kernel_rfl,by kernel_rfl⟩
theorem s36y (v:Val) (d:Dlt) (hsz:szV v≤1099511627776) (hsr:mayV v=true→szV (doV v d)≤1099511627776) (he:doE v d=0):PSpec Try.prog 36 [.d (encV v),.d (encD d)] (.tup (([encV (doV v d),.int .i64 0]).map .d)):=by
 obtain ⟨kd,it,tx,xs,ns⟩:=v;refine PSpec.of2C tabOk fn36 (by simp) fun o nk=>?_;refine wr ?_;refine u_step (g_box rfl fun o2 hb2 hk2=>?_);refine u_step (g_box rfl fun o3 hb3 hk3=>?_);have hb2_3:=(hk3 _ (by omega)).trans hb2;refine u_step (g_alloc th27 rfl fun o4 hb4 hk4=>?_);have hb2_4:=(hk4 _ (by omega)).trans hb2_3;have hb3_4:=(hk4 _ (by omega)).trans hb3;refine ua (u_nil (WP.seq fun K5 hK5=>?_));refine wr (uf th46 th3 hb3_4 ?_);refine ul th3 hb3_4 ?_;refine u_nil (WP.block (wr (ub (ua (u_nil ?_)))));refine wc (fun hc8=>?_) (fun hc8=>?_)
 ·
  simp at hc8;refine wr (ug th27 hb2_4 ?_);refine uf th46 th22 hb3_4 ?_;refine ul th22 hb3_4 ?_;refine uf th46 th27 hb3_4 ?_;refine ug th27 hb3_4 ?_;refine u_step (o_pcall (s61y (.mk kd it tx xs ns) d hc8 hsz hsr he) rfl ?_);refine ue (ue ?_);refine u_step0 (g_sta rfl (congrArg SV.d (encV_eq _)) th27 rfl hb4 (by simp [valCells]) fun o10 hb10 hk10=>?_);have hb2_10:=(hk10 _ (by omega)).trans hb2_4;have hb3_10:=(hk10 _ (by omega)).trans hb3_4;refine ua (u_nil (WP.ret ?_));refine retC_ok (resis_agg rfl th27 rfl hb10 rfl rfl rfl) rfl ?_ ?_ (by omega) (fun t ht=>(hk10 t (by omega)).trans ((hk4 t (by omega)).trans ((hk3 t (by omega)).trans ((hk2 t (by omega))))))
  ·first | rfl | exact (encV_eq _).symm
  ·rfl
 ·
  simp at hc8;refine wr (ub (ua (u_nil ?_)));refine wc (fun hc12=>?_) (fun hc12=>?_)
  ·
   simp at hc12;refine wr (ug th27 hb2_4 ?_);refine uf th46 th22 hb3_4 ?_;refine ul th22 hb3_4 ?_;refine u_step (o_pcall (s62y (.mk kd it tx xs ns) d (by assumption) hc12 hsz hsr he) rfl ?_);refine ue (ue ?_);refine u_step0 (g_sta rfl (congrArg SV.d (encV_eq _)) th27 rfl hb4 (by simp [valCells]) fun o14 hb14 hk14=>?_);have hb2_14:=(hk14 _ (by omega)).trans hb2_4;have hb3_14:=(hk14 _ (by omega)).trans hb3_4;refine ua (u_nil (WP.ret ?_));refine retC_ok (resis_agg rfl th27 rfl hb14 rfl rfl rfl) rfl ?_ ?_ (by omega) (fun t ht=>(hk14 t (by omega)).trans ((hk4 t (by omega)).trans ((hk3 t (by omega)).trans ((hk2 t (by omega))))))
   ·first | rfl | exact (encV_eq _).symm
   ·rfl
  ·
   simp at hc12;refine WP.skip (hK5 _ (wr (ug th27 hb2_4 ?_)));refine uf th46 th22 hb3_4 ?_;refine ul th22 hb3_4 ?_;refine uf th46 th3 hb3_4 ?_;refine ul th3 hb3_4 ?_;refine u_step (o_pcall (s63y (.mk kd it tx xs ns) d (by assumption) hc12 hsz hsr he) rfl ?_);refine ue (ue ?_);refine u_step0 (g_sta rfl (congrArg SV.d (encV_eq _)) th27 rfl hb4 (by simp [valCells]) fun o16 hb16 hk16=>?_);have hb2_16:=(hk16 _ (by omega)).trans hb2_4;have hb3_16:=(hk16 _ (by omega)).trans hb3_4;refine ua (u_nil (WP.ret ?_));refine retC_ok (resis_agg rfl th27 rfl hb16 rfl rfl rfl) rfl ?_ ?_ (by omega) (fun t ht=>(hk16 t (by omega)).trans ((hk4 t (by omega)).trans ((hk3 t (by omega)).trans ((hk2 t (by omega))))))
   ·first | rfl | exact (encV_eq _).symm
   ·rfl
theorem s36n (v:Val) (d:Dlt) (hsz:szV v≤1099511627776) (hsr:mayV v=true→szV (doV v d)≤1099511627776) (he:¬ doE v d=0):PSpec Try.prog 36 [.d (encV v),.d (encD d)] (.tup (([zAgg,.int .i64 (doE v d)]).map .d)):=by
 obtain ⟨kd,it,tx,xs,ns⟩:=v;refine PSpec.of2C tabOk fn36 (by simp) fun o nk=>?_;refine wr ?_;refine u_step (g_box rfl fun o2 hb2 hk2=>?_);refine u_step (g_box rfl fun o3 hb3 hk3=>?_);have hb2_3:=(hk3 _ (by omega)).trans hb2;refine u_step (g_alloc th27 rfl fun o4 hb4 hk4=>?_);have hb2_4:=(hk4 _ (by omega)).trans hb2_3;have hb3_4:=(hk4 _ (by omega)).trans hb3;refine ua (u_nil (WP.seq fun K5 hK5=>?_));refine wr (uf th46 th3 hb3_4 ?_);refine ul th3 hb3_4 ?_;refine u_nil (WP.block (wr (ub (ua (u_nil ?_)))));refine wc (fun hc8=>?_) (fun hc8=>?_)
 ·
  simp at hc8;refine wr (ug th27 hb2_4 ?_);refine uf th46 th22 hb3_4 ?_;refine ul th22 hb3_4 ?_;refine uf th46 th27 hb3_4 ?_;refine ug th27 hb3_4 ?_;refine u_step (o_pcall (s61n (.mk kd it tx xs ns) d hc8 hsz hsr he) rfl ?_);refine ue (ue ?_);refine u_step0 (g_sta rfl rfl th27 rfl hb4 (by first | (simp;done) | (simp [D.leaves,D.width,valCells];done) | decide) fun o10 hb10 hk10=>?_);have hb2_10:=(hk10 _ (by omega)).trans hb2_4;have hb3_10:=(hk10 _ (by omega)).trans hb3_4;refine ua (u_nil (WP.ret ?_));refine retC_ok (resis_agg rfl th27 rfl hb10 rfl rfl rfl) rfl ?_ ?_ (by omega) (fun t ht=>(hk10 t (by omega)).trans ((hk4 t (by omega)).trans ((hk3 t (by omega)).trans ((hk2 t (by omega))))))
  ·rfl
  ·rfl
 ·
  simp at hc8;refine wr (ub (ua (u_nil ?_)));refine wc (fun hc12=>?_) (fun hc12=>?_)
  ·
   simp at hc12;refine wr (ug th27 hb2_4 ?_);refine uf th46 th22 hb3_4 ?_;refine ul th22 hb3_4 ?_;refine u_step (o_pcall (s62n (.mk kd it tx xs ns) d (by assumption) hc12 hsz hsr he) rfl ?_);refine ue (ue ?_);refine u_step0 (g_sta rfl rfl th27 rfl hb4 (by first | (simp;done) | (simp [D.leaves,D.width,valCells];done) | decide) fun o14 hb14 hk14=>?_);have hb2_14:=(hk14 _ (by omega)).trans hb2_4;have hb3_14:=(hk14 _ (by omega)).trans hb3_4;refine ua (u_nil (WP.ret ?_));refine retC_ok (resis_agg rfl th27 rfl hb14 rfl rfl rfl) rfl ?_ ?_ (by omega) (fun t ht=>(hk14 t (by omega)).trans ((hk4 t (by omega)).trans ((hk3 t (by omega)).trans ((hk2 t (by omega))))))
   ·rfl
   ·rfl
  ·
   simp at hc12;refine WP.skip (hK5 _ (wr (ug th27 hb2_4 ?_)));refine uf th46 th22 hb3_4 ?_;refine ul th22 hb3_4 ?_;refine uf th46 th3 hb3_4 ?_;refine ul th3 hb3_4 ?_;refine u_step (o_pcall (s63n (.mk kd it tx xs ns) d (by assumption) hc12 hsz hsr he) rfl ?_);refine ue (ue ?_);refine u_step0 (g_sta rfl rfl th27 rfl hb4 (by first | (simp;done) | (simp [D.leaves,D.width,valCells];done) | decide) fun o16 hb16 hk16=>?_);have hb2_16:=(hk16 _ (by omega)).trans hb2_4;have hb3_16:=(hk16 _ (by omega)).trans hb3_4;refine ua (u_nil (WP.ret ?_));refine retC_ok (resis_agg rfl th27 rfl hb16 rfl rfl rfl) rfl ?_ ?_ (by omega) (fun t ht=>(hk16 t (by omega)).trans ((hk4 t (by omega)).trans ((hk3 t (by omega)).trans ((hk2 t (by omega))))))
   ·rfl
   ·rfl
theorem szVs_app2:∀ (a b:List Val),szVs (a++b)=szVs a+szVs b
 | [],b=>by simp [szVs]
 | x :: a,b=>by simp only [List.cons_append,szVs,szVs_app2 a b];omega
theorem szN_app2:∀ (a b:List Str),szN (a++b)=szN a+szN b
 | [],b=>by simp [szN]
 | x :: a,b=>by simp only [List.cons_append,szN,szN_app2 a b];omega
theorem szVs_set:∀ {xs:List Val} {j:Nat} {y x:Val},xs[j]?=some y→szVs (xs.set j x)+szV y=szVs xs+szV x
 | z :: xs,0,y,x,h=>by simp only [List.getElem?_cons_zero,Option.some.injEq] at h;subst h;simp only [List.set_cons_zero,szVs];omega
 | z :: xs,j+1,y,x,h=>by
  have:=szVs_set (xs:=xs) (j:=j) (y:=y) (x:=x) (by simpa using h);simp only [List.set_cons_succ,szVs];omega
 | [],j,y,x,h=>by simp at h
theorem szVs_erase:∀ {xs:List Val} {j:Nat},szVs (xs.eraseIdx j)≤szVs xs
 | [],j=>by simp
 | z :: xs,0=>by simp only [List.eraseIdx_cons_zero,szVs];omega
 | z :: xs,j+1=>by have:=szVs_erase (xs:=xs) (j:=j);simp only [List.eraseIdx_cons_succ,szVs];omega
theorem szN_erase:∀ {xs:List Str} {j:Nat},szN (xs.eraseIdx j)≤szN xs
 | [],j=>by simp
 | z :: xs,0=>by simp only [List.eraseIdx_cons_zero,szN];omega
 | z :: xs,j+1=>by have:=szN_erase (xs:=xs) (j:=j);simp only [List.eraseIdx_cons_succ,szN];omega
theorem szV_parts (v:Val):szV v=1+v.text.length+szVs v.items+szN v.names:=by obtain ⟨k,i,t,xs,ns⟩:=v;rfl
theorem szV_swap {v x y:Val} {j:Nat} (h:v.items[j]?=some y):szV (swapV v j x)+szV y=szV v+szV x:=by
 have:=szVs_set (x:=x) h;rw [szV_parts (swapV v j x),szV_parts v];simp only [swapV,Val.text,Val.items,Val.names] at *;omega
theorem szV_grow (v:Val) (s:Str) (x:Val):szV (growV v s x)≤szV v+szV x+(s.length+1):=by
 have h1:szVs (v.items++[x])=szVs v.items+szV x:=by rw [szVs_app2];simp [szVs]
 have h2:szN (if v.kind=7 then v.names++[s] else v.names)≤szN v.names+(s.length+1):=by
  split
  ·rw [szN_app2];simp [szN]
  ·omega
 have h3:szV (growV v s x)=1+v.text.length+szVs (v.items++[x])+szN (if v.kind=7 then v.names++[s] else v.names):=rfl;rw [h3,h1,szV_parts v];omega
theorem szV_setP:∀ (p:List Str) (v x:Val),mayV v=true→szV (setP v p x).1≤szV v+szV x+szN p+p.length
 | [],v,x,_=>by simp only [setP,szN];omega
 | s :: p,v,x,hm=>by
  simp only [szN,List.length_cons];by_cases h0:0≤placeV v s
  ·have hlt:=place_lt hm s;obtain ⟨y,hy⟩:∃ y,v.items[(placeV v s).toNat]?=some y:=item_ex (by omega);rw [setP_in h0 hy];have ih:=szV_setP p y x (may_item hm (List.mem_of_getElem? hy));have:=szV_swap (x:=(setP y p x).1) hy;simp only;omega
  ·by_cases h7:v.kind=7
   ·rw [setP_doc h0 h7];have ih:=szV_setP p (.mk 7 0 [] [] []) x (by decide);have:=szV_grow v s (setP (.mk 7 0 [] [] []) p x).1;have e:szV (.mk 7 0 [] [] [])=1:=by simp [szV,szVs,szN]
    simp only;omega
   ·by_cases h6:v.kind=6
    ·rw [setP_arr h0 h7 h6];have:=szV_grow v [] x;simp only [List.length_nil] at *;omega
    ·rw [setP_no h0 h7 h6];simp only;omega
theorem szV_at {f:Val→Nat→Val} {c:Nat} (hf:∀ v i y,v.items[i]?=some y→szV (f v i)≤szV v+c):∀ (p:List Str) (v:Val),mayV v=true→szV (atV f v p)≤szV v+c
 | [],v,_=>by simp only [atV];omega
 | s :: p,v,hm=>by
  by_cases h0:placeV v s < 0
  ·rw [at_no h0];omega
  ·have hlt:=place_lt hm s;obtain ⟨y,hy⟩:∃ y,v.items[(placeV v s).toNat]?=some y:=item_ex (by omega);by_cases hp:p=[]
   ·subst hp;rw [at_do h0];exact hf _ _ _ hy
   ·rw [at_in h0 hp hy];have ih:=szV_at hf p y (may_item hm (List.mem_of_getElem? hy));have:=szV_swap (x:=atV f y p) hy;omega
theorem szV_without (v:Val) (i:Nat) (y:Val) (h:v.items[i]?=some y):szV (withoutV v i)≤szV v+1:=by
 unfold withoutV;split
 ·have:=szV_swap (x:=nullV) h;have e:szV nullV=1:=by simp [nullV,szV,szVs,szN]
  omega
 ·have h1:=szVs_erase (xs:=v.items) (j:=i);have h2:=szN_erase (xs:=v.names) (j:=i);rw [szV_parts v];simp only [szV];omega
theorem szVs_takeL (xs:List Val) (n:Nat):szVs (xs.take n)≤szVs xs:=by
 have:=szVs_app2 (xs.take n) (xs.drop n);rw [List.take_append_drop] at this;omega
theorem szV_cut (n:Nat) (v:Val) (i:Nat) (y:Val) (h:v.items[i]?=some y):szV (cutV n v i)≤szV v+0:=by
 by_cases hc:y.kind≠6∨y.items.length≤n
 ·rw [cut_no h hc];omega
 ·rw [cut_yes h hc];have:=szV_swap (x:=cutI n y) h;have h2:szV (cutI n y)≤szV y:=by
   have:=szVs_takeL y.items n;rw [szV_parts y];simp only [cutI,szV];omega
  omega
def dS (d:Dlt):Nat:=szV d.value+szN d.path+d.path.length+1
theorem szV_do {v:Val} {d:Dlt} (hm:mayV v=true):szV (doV v d)≤szV v+dS d:=by
 unfold doV dS;split
 ·have:=szV_setP d.path v d.value hm;omega
 ·split
  ·have:=szV_at szV_without d.path v hm;omega
  ·have:=szV_at (szV_cut d.n.toNat) d.path v hm;omega
def doR (v:Val) (d:Dlt):Val:=if doE v d=0 then doV v d else zeroV
theorem zAgg_le:D.le zAgg (encV zeroV):=by simp [zAgg,zeroV,encV,encVs,D.le,D.les]
theorem s36 (v:Val) (d:Dlt) (hsz:szV v≤1099511627776) (hsr:mayV v=true→szV (doV v d)≤1099511627776):PSpec Try.prog 36 [.d (encV v),.d (encD d)] (.tup ([encV (doR v d),.int .i64 (doE v d)].map .d)):=by
 by_cases he:doE v d=0
 ·have h:=s36y v d hsz hsr he;rw [doR,if_pos he,he];exact h
 ·have h:=(s36n v d hsz hsr he).leT (ys:=[encV zeroV,.int .i64 (doE v d)]) (by simp only [D.les];exact ⟨zAgg_le,D.le_refl _,trivial⟩);rw [doR,if_neg he];exact h
def appP:List Dlt→Val→Val×Int
 | [],v=>(v,0)
 | d :: l,v=>if doE v d=0 then appP l (doV v d) else (v,doE v d)
theorem appP_ok {l:List Dlt} {i:Nat} {d:Dlt} {u:Val} (h:i < l.length) (hd:d=l[i]'h) (he:doE u d=0):appP (l.drop i) u=appP (l.drop (i+1)) (doR u d):=by
 rw [List.drop_eq_getElem_cons h,← hd,appP,if_pos he,doR,if_pos he]
theorem appP_no {l:List Dlt} {i:Nat} {d:Dlt} {u:Val} (h:i < l.length) (hd:d=l[i]'h) (he:¬ doE u d=0):(appP (l.drop i) u).2=doE u d:=by
 rw [List.drop_eq_getElem_cons h,← hd,appP,if_neg he]
def applyE (v:Val) (l:List Dlt):Int:=if ¬ checkD l=0 then checkD l else if v.kind≠7∨mayV v=false then 20 else (appP l v).2
def applyD (v:Val) (l:List Dlt):D:=if applyE v l=0 then encV (appP l v).1 else zAgg
theorem doE_may {v:Val} {d:Dlt} (h:doE v d=0):mayV v=true:=by
 unfold doE at h;split at h
 ·by_cases hz:chkT v d.path=0
  ·exact (chkT_may hz).1
  ·by_cases hA:v.kind=7∧mayV d.value=false
   ·rw [(set_a hA).2] at h;cases h
   ·rw [(set_b hA hz).2] at h;exact absurd h hz
 ·split at h
  ·exact (chkT_may h).1
  ·unfold cutE at h;split at h
   ·rename_i hz;exact (chkT_may hz).1
   ·rename_i hz;exact absurd h hz
theorem s36c (v:Val) (d:Dlt) (hsz:szV v≤1099511627776) (hsr:mayV v=true→szV (doV v d)≤1099511627776):PSpec Try.prog 36 [.d (.agg (valCells v)),.d (encD d)] (.tup ([encV (doR v d),.int .i64 (doE v d)].map .d)):=by
 have h:=s36 v d hsz hsr;rw [encV_eq v] at h;exact h
theorem fn12:FnOkC Try.prog 12 47 [.cell 4 27,.tmp 5] (bodyOf Try.f12):=⟨Try.f12,Try.func12,by kernel_rfl,by decide,by kernel_rfl,by kernel_rfl⟩
theorem s12 (v:Val) (l:List Dlt) (hok:∀ d∈l,okD d) (hsz:szV v≤274877906944) (hds:∀ d∈l,dS d≤8589934592):PSpec Try.prog 12 [.d (encV v),.d (.sl 8 (l.map encD))] (.tup (([applyD v l,.int .i64 (applyE v l)]).map .d)):=by
 obtain ⟨kd,it,tx,xs,ns⟩:=v;refine PSpec.of2C tabOk fn12 (by simp) fun o nk=>?_;refine wr ?_;refine u_step (g_box rfl fun o2 hb2 hk2=>?_);refine u_step (g_alloc th27 rfl fun o3 hb3 hk3=>?_);have hb2_3:=(hk3 _ (by omega)).trans hb2;refine ua ?_;refine u_nil ?_;refine WP.seq fun K4 hK4=>?_;refine wr ?_;refine um ?_;refine u_step (o_pcall (s30 l (fun _=>hok)) rfl ?_);refine ua ?_;refine u_nil ?_;refine wr ?_;refine um ?_;refine ub ?_;refine u_nil ?_;refine wc (fun hc7=>?_) (fun hc7=>?_) <;> try simp only [Q0,Q1,Q2,Q3,Q4,Q5,Q6,Q7,Q8,ge_iff_le,gt_iff_lt] at hc7
 ·
  have hz:¬ checkD l=0:=by have hgo:=hc7;simpa using hgo
  refine wr ?_;refine u_step (o_bu rfl th27 rfl rfl ?_);refine um ?_;refine u_step0 (g_sta rfl rfl th27 rfl hb3 (by first | (simp;done) | (simp [D.leaves,D.width,valCells];done) | decide) fun o9 hb9 hk9=>?_);have hb2_9:=(hk9 _ (by omega)).trans hb2_3;refine ua (u_nil (WP.ret ?_));refine retC_ok (resis_agg rfl th27 rfl hb9 rfl rfl rfl) rfl ?_ ?_ (by omega) (fun t ht=>(hk9 t (by omega)).trans ((hk3 t (by omega)).trans ((hk2 t (by omega)))))
  ·have hE:applyE (.mk kd it tx xs ns) l=checkD l:=by rw [applyE,if_pos hz]
   rw [applyD,if_neg (by rw [hE];exact hz)];rfl
  ·have hE:applyE (.mk kd it tx xs ns) l=checkD l:=by rw [applyE,if_pos hz]
   rw [hE]
 ·
  have hz:checkD l=0:=by have hgo:=hc7;simpa using hgo
  have hcl:=checkD_len hz;refine WP.skip (hK4 _ (WP.seq fun K10 hK10=>?_));refine wr (uf th27 th3 hb2_3 ?_);refine ul th3 hb2_3 ?_;refine ub (um ?_);apply gF
  ·rfl
  ·intro hg;exact pg th27 hb2_3
  apply gF
  ·rfl
  ·intro hg;try simp only [hg,ct,Bt]
   refine o_pcall (s34 (.mk kd it tx xs ns)) rfl ⟨rfl,rfl,rfl⟩
  apply gF
  ·rfl
  ·intro hg;try simp only [hg,ct,Bt]
   exact pN
  refine uO ?_;refine u_nil ?_;refine wc (fun hc12=>?_) (fun hc12=>?_) <;> try simp only [Q0,Q1,Q2,Q3,Q4,Q5,Q6,Q7,Q8,ge_iff_le,gt_iff_lt] at hc12
  ·
   have hA:kd≠7∨mayV (.mk kd it tx xs ns)=false:=by have hgo:=hc12;simpa using hgo
   refine wr ?_;refine u_step (o_bu rfl th27 rfl rfl ?_);refine u_step0 (g_sta rfl rfl th27 rfl hb3 (by first | (simp;done) | (simp [D.leaves,D.width,valCells];done) | decide) fun o14 hb14 hk14=>?_);have hb2_14:=(hk14 _ (by omega)).trans hb2_3;refine ua (u_nil (WP.ret ?_));refine retC_ok (resis_agg rfl th27 rfl hb14 rfl rfl rfl) rfl ?_ ?_ (by omega) (fun t ht=>(hk14 t (by omega)).trans ((hk3 t (by omega)).trans ((hk2 t (by omega)))))
   ·have hE:applyE (.mk kd it tx xs ns) l=20:=by rw [applyE,if_neg (by simpa using hz)];exact if_pos hA
    rw [applyD,if_neg (by rw [hE];decide)];rfl
   ·have hE:applyE (.mk kd it tx xs ns) l=20:=by rw [applyE,if_neg (by simpa using hz)];exact if_pos hA
    rw [hE]
  ·
   have hA:¬ (kd≠7∨mayV (.mk kd it tx xs ns)=false):=by have hgo:=hc12;simpa using hgo
   have hap:applyE (.mk kd it tx xs ns) l=(appP l (.mk kd it tx xs ns)).2:=by rw [applyE,if_neg (by simpa using hz)];exact if_neg hA
   refine WP.skip (hK10 _ (wr (ug th27 hb2_3 ?_)));refine u_step (o_pcall (s35 (.mk kd it tx xs ns) (by omega)) rfl ?_);refine u_step0 (g_sta rfl rfl th27 rfl hb2_3 (by first | (simp;done) | (simp [D.leaves,D.width,valCells];done) | decide) fun o16 hb16 hk16=>?_);have hb3_16:=(hk16 _ (by omega)).trans hb3;refine u_nil (WP.seq fun K17 hK17=>?_);refine wr (um (un th28 ?_));refine um (u_nil (WP.block ?_));refine WP.loopL (ι:=Nat×Val×(Nat→Option AO)×Nat) (fun ⟨i,u,o2,nk2⟩=>⟨al [(2,.loc nk 0),(4,.loc (nk+1) 0),(28,.d (.sl 8 (l.map encD))),(29,.d (.int .i64 (l.map encD).length)),(30,.d (.int .i64 i))],o2,nk2⟩) (fun ⟨i,u,o2,nk2⟩=>i≤l.length∧nk+2≤nk2∧o2 nk=some (.box ((valCells u).map .d))∧o2 (nk+1)=some (.box [.d (.int .i64 0),.d (.int .i64 0),.d (.str []),.d .nil,.d .nil])∧(∀ t,t < nk→o2 t=o t)∧appP (l.drop i) u=appP l (.mk kd it tx xs ns)∧szV u≤274877906944+i * 8589934592) (fun ⟨i,u,o2,nk2⟩=>l.length - i) (fun ⟨i,u,o2,nk2⟩ hA=>?_) ⟨0,(.mk kd it tx xs ns),o16,((nk+1)+1)⟩ ?_ ?_
   ·
    obtain ⟨hle,hnk,hob,hzb,hfr,hap2,hsu⟩:=hA;refine wr ?_;refine ub ?_;refine u_nil ?_;refine WP.seq fun K20 hK20=>?_;refine wc (fun hc21=>?_) (fun hc21=>?_) <;> try simp only [Q0,Q1,Q2,Q3,Q4,Q5,Q6,Q7,Q8,ge_iff_le,gt_iff_lt] at hc21
    ·
     refine WP.skip (hK20 _ (WP.seq fun K22 hK22=>?_));refine WP.block ?_;have hil:i < l.length:=by have hgo:=hc21;first | omega | (rw [List.length_map] at hgo;omega) | (simp at hgo;omega) | (exact absurd hgo id)
     obtain ⟨d,hd⟩:∃ d,d=l[i]:=⟨_,rfl⟩;have hgd:(l.map encD)[((i:Nat):Int).toNat]?=some (encD d):=by rw [hd];simp [hil]
     refine wr ?_;refine u_step (o_ia_sl rfl rfl th28 rfl th46 rfl (Int.natCast_nonneg _) hgd ?_);refine uL th46 ?_;refine u_step (g_alloc th46 rfl fun o24 hb24 hk24=>?_);have hob_24:=(hk24 _ (by omega)).trans hob;have hzb_24:=(hk24 _ (by omega)).trans hzb;refine u_step0 (g_sta rfl rfl th46 rfl hb24 (by first | (simp;done) | (simp [D.leaves,D.width,valCells];done) | decide) fun o25 hb25 hk25=>?_);have hob_25:=(hk25 _ (by omega)).trans hob_24;have hzb_25:=(hk25 _ (by omega)).trans hzb_24;refine u_nil ?_;refine wr ?_;refine ug th27 hob_25 ?_;refine ug th46 hb25 ?_;refine u_step (o_pcall (s36c u d (by omega) (fun hm=>by have:=szV_do (d:=d) hm;have:=hds d (hd ▸ List.getElem_mem hil);omega)) rfl ?_);refine u_step (o_moveV (v:=.tup _) rfl ?_);refine ue ?_;refine ue ?_;refine u_step (g_alloc th27 rfl fun o27 hb27 hk27=>?_);have hob_27:=(hk27 _ (by omega)).trans hob_25;have hzb_27:=(hk27 _ (by omega)).trans hzb_25;have hb25_27:=(hk27 _ (by omega)).trans hb25;refine u_step0 (g_sta rfl (congrArg SV.d (encV_eq _)) th27 rfl hb27 (by simp [valCells]) fun o28 hb28 hk28=>?_);have hob_28:=(hk28 _ (by omega)).trans hob_27;have hzb_28:=(hk28 _ (by omega)).trans hzb_27;have hb25_28:=(hk28 _ (by omega)).trans hb25_27;refine ua ?_;refine u_nil ?_;refine WP.seq fun K29 hK29=>?_;refine wr ?_;refine um ?_;refine ub ?_;refine u_nil ?_;refine wc (fun hc31=>?_) (fun hc31=>?_) <;> try simp only [Q0,Q1,Q2,Q3,Q4,Q5,Q6,Q7,Q8,ge_iff_le,gt_iff_lt] at hc31
     ·
      have he:¬ doE u d=0:=by have hgo:=hc31;simpa using hgo
      refine wr ?_;refine u_step (o_bu rfl th27 rfl rfl ?_);refine um ?_;refine u_step0 (g_sta rfl rfl th27 rfl hzb_28 (by first | (simp;done) | (simp [D.leaves,D.width,valCells];done) | decide) fun o33 hb33 hk33=>?_);have hob_33:=(hk33 _ (by omega)).trans hob_28;have hb25_33:=(hk33 _ (by omega)).trans hb25_28;have hb28_33:=(hk33 _ (by omega)).trans hb28;refine ua (u_nil (WP.ret ?_));refine retC_ok (resis_agg rfl th27 rfl hb33 rfl rfl rfl) rfl ?_ ?_ (by omega) (fun t ht=>(hk33 t (by omega)).trans ((hk28 t (by omega)).trans ((hk27 t (by omega)).trans ((hk25 t (by omega)).trans ((hk24 t (by omega)).trans ((hfr t (by omega))))))))
      ·have hE:applyE (.mk kd it tx xs ns) l=doE u d:=by rw [hap,← hap2];exact appP_no hil hd he
       rw [applyD,if_neg (by rw [hE];exact he)];rfl
      ·have hE:applyE (.mk kd it tx xs ns) l=doE u d:=by rw [hap,← hap2];exact appP_no hil hd he
       rw [hE]
     ·
      have he:doE u d=0:=by have hgo:=hc31;simpa using hgo
      refine WP.skip (hK29 _ (WP.reg tabOk rfl ?_));refine ug th27 hb28 ?_;refine u_step0 (g_sta rfl rfl th27 rfl hob_28 (by first | (simp;done) | (simp [D.leaves,D.width,valCells];done) | decide) fun o34 hb34 hk34=>?_);have hzb_34:=(hk34 _ (by omega)).trans hzb_28;have hb25_34:=(hk34 _ (by omega)).trans hb25_28;have hb28_34:=(hk34 _ (by omega)).trans hb28;refine u_nil (hK22 _ (WP.reg tabOk rfl ?_));refine ub (um (u_nil ?_));have hdu:szV (doR u d)≤szV u+dS d:=by
       rw [doR,if_pos he];exact szV_do (doE_may he)
      have hdd:=hds d (hd ▸ List.getElem_mem hil);refine ⟨⟨i+1,doR u d,o34,((nk2+1)+1)⟩,⟨by omega,by omega,hb34,hzb_34,(fun t ht=>(hk34 t (by omega)).trans ((hk28 t (by omega)).trans ((hk27 t (by omega)).trans ((hk25 t (by omega)).trans ((hk24 t (by omega)).trans ((hfr t (by omega)))))))),(appP_ok hil hd he).symm.trans hap2,by omega⟩,by simp only;omega,?_⟩;refine Le.al ?_;simp only [List.forall_mem_cons];exact ⟨rfl,rfl,rfl,rfl,cnt (by omega),by simp⟩
    ·
     refine WP.exit ?_;refine hK17 _ (wr (ug th27 hob ?_));refine u_step0 (g_sta rfl rfl th27 rfl hzb (by first | (simp;done) | (simp [D.leaves,D.width,valCells];done) | decide) fun o36 hb36 hk36=>?_);have hob_36:=(hk36 _ (by omega)).trans hob;refine ua (u_nil (WP.ret ?_));refine retC_ok (resis_agg rfl th27 rfl hb36 rfl rfl rfl) rfl ?_ ?_ (by omega) (fun t ht=>(hk36 t (by omega)).trans ((hfr t (by omega))))
     ·have hie:i=l.length:=by have hgo:=hc21;simp at hgo;omega
      have hu:appP l (.mk kd it tx xs ns)=(u,0):=by rw [← hap2,List.drop_of_length_le (by omega)];rfl
      rw [applyD,if_pos (by rw [hap,hu]),hu];exact (encV_eq _).symm
     ·have hie:i=l.length:=by have hgo:=hc21;simp at hgo;omega
      have hu:appP l (.mk kd it tx xs ns)=(u,0):=by rw [← hap2,List.drop_of_length_le (by omega)];rfl
      rw [hap,hu]
   ·
    exact ⟨by omega,by omega,hb16,hb3_16,(fun t ht=>(hk16 t (by omega)).trans ((hk3 t (by omega)).trans ((hk2 t (by omega))))),rfl,by simpa using hsz⟩
   ·
    refine Le.al ?_;simp only [List.forall_mem_cons];exact ⟨rfl,rfl,rfl,rfl,rfl,by simp⟩
section
variable {P:Program} {Θ:Tab} {K:SV→(Nat→Option AO)→Nat→Prop} {sl:Nat→SV} {o:Nat→Option AO} {nk:Nat} {x y:Operand} {t e:Nat}
end
section
variable {P:Program} {Θ:Tab} {K:SV→(Nat→Option AO)→Nat→Prop} {sl:Nat→SV} {o:Nat→Option AO} {nk:Nat} {x b:Operand} {t e:Nat} {i j:TI} {z:Nat} {ys:List D} {n:Int}
end
theorem may_parts {k i:Int} {t:Str} {xs:List Val} {ns:List Str}:mayV (.mk k i t xs ns)=true↔(xs.all mayV=true∧ns.all nameV=true)∧kindOk k i t xs.length ns=true:=by
 rw [mayV,maysV_all,Bool.and_eq_true,Bool.and_eq_true]
theorem may_swap {v x:Val} {j:Nat} (h:mayV v=true) (hx:mayV x=true):mayV (swapV v j x)=true:=by
 obtain ⟨k,i,t,xs,ns⟩:=v;rw [may_parts] at h;rw [swapV,may_parts];refine ⟨⟨?_,h.1.2⟩,by rw [List.length_set];exact h.2⟩;rw [List.all_eq_true];intro y hy;rcases List.mem_or_eq_of_mem_set hy with h1 | rfl
 ·exact List.all_eq_true.1 h.1.1 _ h1
 ·exact hx
theorem idx_no_mem {ns:List Str} {s:Str} (h:idxS ns s < 0):s ∉ ns:=by
 intro hm;unfold idxS firstI at h;rw [if_pos (List.any_eq_true.2 ⟨s,hm,decide_eq_true rfl⟩)] at h;omega
theorem may_grow7 {v x:Val} {s:Str} (h:mayV v=true) (h7:v.kind=7) (hs:nameV s=true) (h0:placeV v s < 0) (hx:mayV x=true):mayV (growV v s x)=true:=by
 obtain ⟨k,i,t,xs,ns⟩:=v;simp only [Val.kind] at h7;subst h7;rw [place7 rfl] at h0;have hn:=idx_no_mem h0;rw [may_parts] at h;have e:growV (.mk 7 i t xs ns) s x=.mk 7 i t (xs++[x]) (ns++[s]):=rfl;rw [e,may_parts];refine ⟨⟨by rw [List.all_append,h.1.1];simp [hx],by rw [List.all_append,h.1.2];simp [hs]⟩,?_⟩;have h2:=h.2;simp only [kindOk] at h2 ⊢;simp [twiceV] at h2 ⊢;refine ⟨⟨h2.1.1,h2.1.2⟩,?_⟩;rw [List.nodup_append];exact ⟨h2.2,by simp,fun a ha b hb e=>hn (by simp at hb;rw [← hb,← e];exact ha)⟩
theorem may_grow6 {v x:Val} {s:Str} (h:mayV v=true) (h6:v.kind=6) (hx:mayV x=true):mayV (growV v s x)=true:=by
 obtain ⟨k,i,t,xs,ns⟩:=v;simp only [Val.kind] at h6;subst h6;rw [may_parts] at h;have e:growV (.mk 6 i t xs ns) s x=.mk 6 i t (xs++[x]) ns:=rfl;rw [e,may_parts];refine ⟨⟨by rw [List.all_append,h.1.1];simp [hx],h.1.2⟩,?_⟩;have h2:=h.2;simp only [kindOk] at h2 ⊢;simpa using h2
theorem may_without {v:Val} {j:Nat} (h:mayV v=true) (hk:v.kind=6∨v.kind=7) (hj:j < v.items.length):mayV (withoutV v j)=true:=by
 unfold withoutV;split
 ·exact may_swap h (by decide)
 ·rename_i h6;obtain ⟨k,i,t,xs,ns⟩:=v;simp only [Val.kind,Val.int,Val.text,Val.items,Val.names] at *;have h7:k=7:=by rcases hk with e | e;exact absurd e h6;exact e
  subst h7;rw [may_parts] at h;rw [may_parts];have h2:=h.2;simp only [kindOk] at h2 ⊢;simp [twiceV] at h2 ⊢;refine ⟨⟨?_,?_⟩,⟨h2.1.1,?_⟩,?_⟩
  ·exact fun y hy=>List.all_eq_true.1 h.1.1 _ (List.mem_of_mem_eraseIdx hy)
  ·exact fun y hy=>List.all_eq_true.1 h.1.2 _ (List.mem_of_mem_eraseIdx hy)
  ·rw [List.length_eraseIdx,List.length_eraseIdx,if_pos (by omega),if_pos (by omega),h2.1.2]
  ·exact h2.2.sublist (List.eraseIdx_sublist _ _)
theorem may_cutI {y:Val} {n:Nat} (h:mayV y=true) (h6:y.kind=6):mayV (cutI n y)=true:=by
 obtain ⟨k,i,t,xs,ns⟩:=y;simp only [Val.kind] at h6;subst h6;rw [may_parts] at h;have e:cutI n (.mk 6 i t xs ns)=.mk 6 i t (xs.take n) ns:=rfl;rw [e,may_parts];refine ⟨⟨?_,h.1.2⟩,?_⟩
 ·rw [List.all_eq_true];exact fun z hz=>List.all_eq_true.1 h.1.1 _ (List.mem_of_mem_take hz)
 ·have h2:=h.2;simp only [kindOk] at h2 ⊢;simpa using h2
theorem may_cutV {v:Val} {n j:Nat} (h:mayV v=true) (hj:j < v.items.length):mayV (cutV n v j)=true:=by
 obtain ⟨y,hy⟩:∃ y,v.items[j]?=some y:=item_ex hj;by_cases hc:y.kind≠6∨y.items.length≤n
 ·rw [cut_no hy hc];exact h
 ·rw [cut_yes hy hc];simp only [not_or,ne_eq,Decidable.not_not] at hc;exact may_swap h (may_cutI (may_item h (List.mem_of_getElem? hy)) hc.1)
theorem may_at {f:Val→Nat→Val} (hf:∀ v j,mayV v=true→(v.kind=6∨v.kind=7)→j < v.items.length→mayV (f v j)=true∧(f v j).kind=v.kind):∀ (p:List Str) (v:Val),mayV v=true→mayV (atV f v p)=true∧(atV f v p).kind=v.kind
 | [],v,h=>⟨h,rfl⟩
 | s :: p,v,h=>by
  by_cases h0:placeV v s < 0
  ·rw [at_no h0];exact ⟨h,rfl⟩
  ·have hlt:=place_lt h s;obtain ⟨y,hy⟩:∃ y,v.items[(placeV v s).toNat]?=some y:=item_ex (by omega);by_cases hp:p=[]
   ·subst hp;rw [at_do h0];exact hf _ _ h (place_kind (s:=s) (by omega)) (by omega)
   ·rw [at_in h0 hp hy];exact ⟨may_swap h (may_at hf p y (may_item h (List.mem_of_getElem? hy))).1,rfl⟩
theorem may_setP:∀ (p:List Str) (v x:Val),mayV v=true→p.all nameV=true→mayV x=true→(setP v p x).2=true→mayV (setP v p x).1=true∧(p≠[]→(setP v p x).1.kind=v.kind)
 | [],v,x,h,hp,hx,h2=>⟨hx,fun e=>absurd rfl e⟩
 | s :: p,v,x,h,hp,hx,h2=>by
  rw [List.all_cons,Bool.and_eq_true] at hp;by_cases h0:0≤placeV v s
  ·have hlt:=place_lt h s;obtain ⟨y,hy⟩:∃ y,v.items[(placeV v s).toNat]?=some y:=item_ex (by omega);rw [setP_in h0 hy] at h2 ⊢;exact ⟨may_swap h (may_setP p y x (may_item h (List.mem_of_getElem? hy)) hp.2 hx h2).1,fun _=>rfl⟩
  ·by_cases h7:v.kind=7
   ·rw [setP_doc h0 h7] at h2 ⊢;exact ⟨may_grow7 h h7 hp.1 (by omega) (may_setP p _ x (by decide) hp.2 hx h2).1,fun _=>rfl⟩
   ·by_cases h6:v.kind=6
    ·rw [setP_arr h0 h7 h6] at h2 ⊢;exact ⟨may_grow6 h h6 hx,fun _=>rfl⟩
    ·rw [setP_no h0 h7 h6] at h2;cases h2
theorem do_may {v:Val} {d:Dlt} (hv:mayV v=true) (h7:v.kind=7) (hd:mayD d=true) (he:doE v d=0):mayV (doV v d)=true∧(doV v d).kind=7:=by
 rw [mayD,Bool.and_eq_true] at hd;have hp:d.path.all nameV=true:=by have:=hd.1;simp only [pathV,Bool.and_eq_true] at this;exact this.1.1
 have hne:=path_ne hd.1;unfold doV;split
 ·rename_i h1;have hx:mayV d.value=true:=by
   have h3:=hd.2;rw [if_pos h1,Bool.and_eq_true,decide_eq_true_eq] at h3;exact check_may h3.1
  have hs:(setP v d.path d.value).2=true:=by
   rw [doE,if_pos h1] at he;cases hy:(setP v d.path d.value).2 with
   | true=>rfl
   | false=>
    have hA:¬ (v.kind=7∧mayV d.value=false):=fun e=>by rw [hx] at e;cases e.2
    have hz:chkT v d.path=0:=by unfold chkT;rw [if_neg (by simp [h7,hv]),if_pos hd.1]
    rw [(set_c hA hz hy).2] at he;cases he
  have:=may_setP d.path v d.value hv hp hx hs;exact ⟨this.1,(this.2 hne).trans h7⟩
 ·split
  ·have:=may_at (f:=withoutV) (fun v j h hk hj=>⟨may_without h hk hj,by unfold withoutV;split <;> rfl⟩) d.path v hv;exact ⟨this.1,this.2.trans h7⟩
  ·have:=may_at (f:=cutV d.n.toNat) (fun v j h hk hj=>⟨may_cutV h hj,by unfold cutV;split <;> rfl⟩) d.path v hv;exact ⟨this.1,this.2.trans h7⟩
theorem may_doc {v:Val} (h:mayV v=true) (h7:v.kind=7):v.names.Nodup∧v.names.length=v.items.length:=by
 obtain ⟨k,i,t,xs,ns⟩:=v;simp only [Val.kind] at h7;subst h7;rw [may_parts] at h;have h2:=h.2;simp only [kindOk] at h2;simp [twiceV] at h2;exact ⟨h2.2,h2.1.2⟩
theorem may_e:mayV (.mk 7 0 [] [] [])=true:=by decide
theorem place_of7 {v:Val} {s:Str} (h:v.kind=7):placeV v s=idxS v.names s:=by rw [placeV,if_pos h]
theorem idx_spec {ns:List Str} {s:Str} {j:Nat} (hn:ns.Nodup):idxS ns s=(j:Int)↔ns[j]?=some s:=by
 unfold idxS firstI;constructor
 ·intro h;split at h
  ·rename_i ha;have hj:ns.findIdx (fun x=>decide (s=x))=j:=by omega
   have hlt:ns.findIdx (fun x=>decide (s=x)) < ns.length:=List.findIdx_lt_length_of_exists (by simpa using ha);have:=List.findIdx_getElem (w:=hlt);simp only [decide_eq_true_eq] at this;rw [← hj,List.getElem?_eq_getElem hlt,← this]
  ·omega
 ·intro h;obtain ⟨hj,he⟩:=List.getElem?_eq_some_iff.1 h;have ha:ns.any (fun x=>decide (s=x))=true:=List.any_eq_true.2 ⟨s,he ▸ List.getElem_mem hj,by simp⟩;rw [if_pos ha];have hlt:ns.findIdx (fun x=>decide (s=x)) < ns.length:=List.findIdx_lt_length_of_exists ⟨s,he ▸ List.getElem_mem hj,by simp⟩;have:=List.findIdx_getElem (w:=hlt);simp only [decide_eq_true_eq] at this;have:=(List.getElem_inj hn).1 (this.symm.trans he.symm);omega
theorem idx_neg {ns:List Str} {s:Str}:idxS ns s < 0↔s ∉ ns:=by
 unfold idxS firstI;split
 ·rename_i ha;obtain ⟨x,hx,h⟩:=List.any_eq_true.1 ha;simp only [decide_eq_true_eq] at h;subst h;exact ⟨fun h=>by omega,fun h=>absurd hx h⟩
 ·rename_i ha;refine ⟨fun _ hm=>ha (List.any_eq_true.2 ⟨s,hm,by simp⟩),fun _=>by omega⟩
theorem place_lt' {v:Val} (h:mayV v=true) (s:Str):placeV v s < v.items.length:=by
 unfold placeV;split
 ·rename_i h7;have hd:=may_doc h h7;by_cases hs:idxS v.names s < 0
  ·omega
  ·have he:idxS v.names s=((idxS v.names s).toNat:Int):=by omega
   have:=(idx_spec hd.1).1 he;have:=(List.getElem?_eq_some_iff.1 this).1;omega
 ·split
  ·split <;> omega
  ·omega
theorem dig_one {c:UInt8} (h:isDig c=true):48≤c.toNat∧c.toNat≤57:=by simpa [isDig] using h
theorem stepI_inj {s t:Str} (h:stepI s=stepI t) (h0:0≤stepI s):s=t:=by
 have key:∀ {s:Str},0≤stepI s→1≤s.length∧s.length≤3∧¬ (s[0]?=some 48∧1 < s.length)∧s.all isDig=true∧stepI s=digN s 0:=by
  intro s h0;unfold stepI at h0 ⊢;split at h0
  ·omega
  ·rename_i hc;split at h0
   ·rename_i ha;rw [if_neg hc,if_pos ha];refine ⟨by omega,by omega,fun h=>hc (.inr (.inr h)),ha,rfl⟩
   ·omega
 obtain ⟨a1,a2,a3,a4,a5⟩:=key h0;obtain ⟨b1,b2,b3,b4,b5⟩:=key (h ▸ h0);have hd:digN s 0=digN t 0:=by omega
 have ui:∀ {a b:UInt8},a.toNat=b.toNat→a=b:=fun h=>UInt8.toNat_inj.1 h;have z:∀ {a:UInt8},a≠48→a.toNat≠48:=fun h e=>h (ui (by rw [e];rfl))
 match s,t,a1,a2,a3,a4,b1,b2,b3,b4,hd with
 | [a],[b],_,_,_,ha,_,_,_,hb,hd=>
  simp only [List.all_cons,List.all_nil,Bool.and_true] at ha hb;have:=dig_one ha;have:=dig_one hb;simp only [digN] at hd;rw [ui (show a.toNat=b.toNat by omega)]
 | [a,b],[c,d],_,_,_,ha,_,_,_,hb,hd=>
  simp only [List.all_cons,List.all_nil,Bool.and_true,Bool.and_eq_true] at ha hb;have:=dig_one ha.1;have:=dig_one hb.1;have:=dig_one ha.2;have:=dig_one hb.2;simp only [digN] at hd;rw [ui (show a.toNat=c.toNat by omega),ui (show b.toNat=d.toNat by omega)]
 | [a,b,c],[d,e,f],_,_,_,ha,_,_,_,hb,hd=>
  simp only [List.all_cons,List.all_nil,Bool.and_true,Bool.and_eq_true] at ha hb;have:=dig_one ha.1;have:=dig_one hb.1;have:=dig_one ha.2.1;have:=dig_one hb.2.1;have:=dig_one ha.2.2;have:=dig_one hb.2.2;simp only [digN] at hd;rw [ui (show a.toNat=d.toNat by omega),ui (show b.toNat=e.toNat by omega),ui (show c.toNat=f.toNat by omega)]
 | [a],[c,d],_,_,_,ha,_,_,hz,hb,hd=>
  simp only [List.all_cons,List.all_nil,Bool.and_true,Bool.and_eq_true] at ha hb;simp at hz;have:=z hz;have:=dig_one ha;have:=dig_one hb.1;have:=dig_one hb.2;simp only [digN] at hd;omega
 | [a],[c,d,e],_,_,_,ha,_,_,hz,hb,hd=>
  simp only [List.all_cons,List.all_nil,Bool.and_true,Bool.and_eq_true] at ha hb;simp at hz;have:=z hz;have:=dig_one ha;have:=dig_one hb.1;have:=dig_one hb.2.1;have:=dig_one hb.2.2;simp only [digN] at hd;omega
 | [a,b],[c],_,_,hz,ha,_,_,_,hb,hd=>
  simp only [List.all_cons,List.all_nil,Bool.and_true,Bool.and_eq_true] at ha hb;simp at hz;have:=z hz;have:=dig_one ha.1;have:=dig_one ha.2;have:=dig_one hb;simp only [digN] at hd;omega
 | [a,b],[c,d,e],_,_,_,ha,_,_,hz,hb,hd=>
  simp only [List.all_cons,List.all_nil,Bool.and_true,Bool.and_eq_true] at ha hb;simp at hz;have:=z hz;have:=dig_one ha.1;have:=dig_one ha.2;have:=dig_one hb.1;have:=dig_one hb.2.1;have:=dig_one hb.2.2;simp only [digN] at hd;omega
 | [a,b,c],[d],_,_,hz,ha,_,_,_,hb,hd=>
  simp only [List.all_cons,List.all_nil,Bool.and_true,Bool.and_eq_true] at ha hb;simp at hz;have:=z hz;have:=dig_one ha.1;have:=dig_one ha.2.1;have:=dig_one ha.2.2;have:=dig_one hb;simp only [digN] at hd;omega
 | [a,b,c],[d,e],_,_,hz,ha,_,_,_,hb,hd=>
  simp only [List.all_cons,List.all_nil,Bool.and_true,Bool.and_eq_true] at ha hb;simp at hz;have:=z hz;have:=dig_one ha.1;have:=dig_one ha.2.1;have:=dig_one ha.2.2;have:=dig_one hb.1;have:=dig_one hb.2;simp only [digN] at hd;omega
 | [],_,h,_,_,_,_,_,_,_,_=>simp at h
 | _,[],_,_,_,_,h,_,_,_,_=>simp at h
 | _ :: _ :: _ :: _ :: _,_,_,h,_,_,_,_,_,_,_=>simp at h
 | _,_ :: _ :: _ :: _ :: _,_,_,_,_,_,h,_,_,_=>simp at h
theorem place_swap (v:Val) (j:Nat) (x:Val) (s:Str):placeV (swapV v j x) s=placeV v s:=by
 obtain ⟨k,i,t,xs,ns⟩:=v;show (if k=7 then idxS ns s else if k=6 then (if stepI s < ((xs.set j x).length:Int) then stepI s else -1) else -1)=(if k=7 then idxS ns s else if k=6 then (if stepI s < (xs.length:Int) then stepI s else -1) else -1);rw [List.length_set]
theorem item_swap {v:Val} {j k:Nat} {x:Val} (h:k≠j):(swapV v j x).items[k]?=v.items[k]?:=by
 show (v.items.set j x)[k]?=_;rw [List.getElem?_set_ne (fun e=>h e.symm)]
theorem item_swap_same {v:Val} {j:Nat} {x:Val} (h:j < v.items.length):(swapV v j x).items[j]?=some x:=by
 show (v.items.set j x)[j]?=_;rw [List.getElem?_set_self h]
theorem swap_same {v x:Val} {j:Nat} (h:v.items[j]?=some x):swapV v j x=v:=by
 obtain ⟨k,i,t,xs,ns⟩:=v;simp only [swapV,Val.kind,Val.int,Val.text,Val.items,Val.names,Val.mk.injEq,true_and,and_true] at h ⊢;obtain ⟨hj,he⟩:=List.getElem?_eq_some_iff.1 h;rw [← he,List.set_getElem_self]
theorem swap_swap (v:Val) (j:Nat) (x y:Val):swapV (swapV v j x) j y=swapV v j y:=by
 simp [swapV,Val.kind,Val.int,Val.text,Val.items,Val.names]
theorem swap_eq {v x:Val} {j:Nat} (hj:j < v.items.length) (h:swapV v j x=v):v.items[j]?=some x:=by
 have:=item_swap_same (x:=x) hj
 rwa [h] at this
theorem place_ne {v:Val} (h:mayV v=true) {s t:Str} (hst:s≠t) (hs:0≤placeV v s):placeV v s≠placeV v t:=by
 intro e;unfold placeV at hs e;split at hs
 ·rename_i h7;have hd:=may_doc h h7;rw [if_pos h7,if_pos h7] at e;have h1:=(idx_spec (j:=(idxS v.names s).toNat) (s:=s) hd.1).1 (by omega);have h2:=(idx_spec (j:=(idxS v.names s).toNat) (s:=t) hd.1).1 (by omega);rw [h1] at h2;exact hst (by simpa using h2)
 ·rename_i h7;rw [if_neg h7,if_neg h7] at e;split at hs
  ·rename_i h6;rw [if_pos h6,if_pos h6] at e;split at hs
   ·rename_i hlt;rw [if_pos hlt] at e;split at e
    ·exact hst (stepI_inj e hs)
    ·omega
   ·omega
  ·omega
theorem item_at {v:Val} (h:mayV v=true) {s:Str} (h0:0≤placeV v s):∃ y,v.items[(placeV v s).toNat]?=some y∧mayV y=true:=by
 have hl:=place_lt' h s;have:(placeV v s).toNat < v.items.length:=by omega
 exact ⟨v.items[(placeV v s).toNat],List.getElem?_eq_getElem this,may_item h (List.getElem_mem this)⟩
theorem place_grow7 {v:Val} (h:mayV v=true) (h7:v.kind=7) {s t:Str} {x:Val} (hst:s≠t):placeV (growV v t x) s=placeV v s:=by
 have hk:(growV v t x).kind=7:=h7;rw [place_of7 hk,place_of7 h7];show idxS (if v.kind=7 then v.names++[t] else v.names) s=_;rw [if_pos h7];unfold idxS firstI;simp only [List.any_append,List.any_cons,List.any_nil,hst,decide_false,Bool.or_false];split
 ·rename_i ha;rw [List.findIdx_append,if_pos (List.findIdx_lt_length_of_exists (by simpa using ha))]
 ·rfl
theorem place_grow7_same {v:Val} (h:mayV v=true) (h7:v.kind=7) {s:Str} {x:Val} (h0:placeV v s < 0):placeV (growV v s x) s=v.items.length:=by
 have hk:(growV v s x).kind=7:=h7;rw [place_of7 h7,idx_neg] at h0;have hd:=may_doc h h7;rw [place_of7 hk];show idxS (if v.kind=7 then v.names++[s] else v.names) s=_;rw [if_pos h7];have hn:(v.names++[s]).Nodup:=by
  rw [List.nodup_append];exact ⟨hd.1,by simp,fun a ha b hb e=>h0 (by simp at hb;rw [← hb,← e];exact ha)⟩
 rw [idx_spec (j:=v.items.length) hn,← hd.2];simp
theorem grow_items (v:Val) (s:Str) (x:Val):(growV v s x).items=v.items++[x]:=rfl
theorem grow_kind (v:Val) (s:Str) (x:Val):(growV v s x).kind=v.kind:=rfl
theorem place_grow6 {v:Val} (h6:v.kind=6) {s t:Str} {x:Val} (hst:s≠t) (ht:stepI t=v.items.length):placeV (growV v [] x) s=placeV v s:=by
 have h7:¬ v.kind=7:=by omega
 unfold placeV;rw [grow_kind,if_neg h7,if_neg h7,if_pos h6,if_pos h6,grow_items];have hne:stepI s≠v.items.length:=fun e=>hst (stepI_inj (e.trans ht.symm) (by omega));simp only [List.length_append,List.length_cons,List.length_nil];by_cases hl:stepI s < v.items.length
 ·rw [if_pos hl,if_pos (by omega)]
 ·rw [if_neg hl,if_neg (by omega)]
theorem erase_kind (v:Val) (i:Nat) (h6:¬ v.kind=6):withoutV v i=.mk v.kind v.int v.text (v.items.eraseIdx i) (v.names.eraseIdx i):=if_neg h6
theorem place_erase {v:Val} (h:mayV v=true) (h7:v.kind=7) {s:Str} {i:Nat} {y:Val} (hne:v.names[i]?≠some s) :
    (placeV v s < 0→placeV (withoutV v i) s < 0)∧(0≤placeV v s→v.items[(placeV v s).toNat]?=some y→0≤placeV (withoutV v i) s∧(withoutV v i).items[(placeV (withoutV v i) s).toNat]?=some y):=by
  have hd:=may_doc h h7;rw [erase_kind v i (by omega)];have hk:(Val.mk v.kind v.int v.text (v.items.eraseIdx i) (v.names.eraseIdx i)).kind=7:=h7;rw [place_of7 h7,place_of7 hk];show (_→idxS (v.names.eraseIdx i) s < 0)∧(_→_→0≤idxS (v.names.eraseIdx i) s∧(v.items.eraseIdx i)[(idxS (v.names.eraseIdx i) s).toNat]?=some y);refine ⟨fun h0=>?_,fun h0 hy=>?_⟩
  · rw [idx_neg] at h0 ⊢;exact fun hm=>h0 (List.mem_of_mem_eraseIdx hm)
  · have hs:=(idx_spec (j:=(idxS v.names s).toNat) (s:=s) hd.1).1 (by omega);generalize (idxS v.names s).toNat=j at hs hy;have hji:j≠i:=fun e=>hne (e ▸ hs);have hn:=hd.1.eraseIdx i;by_cases hlt:j < i
    · have e:=(idx_spec (j:=j) (s:=s) hn).2 (by rw [List.getElem?_eraseIdx,if_pos hlt];exact hs);rw [e];exact ⟨by omega,by rw [Int.toNat_natCast,List.getElem?_eraseIdx,if_pos hlt];exact hy⟩
    · have e:=(idx_spec (j:=j - 1) (s:=s) hn).2 (by rw [List.getElem?_eraseIdx,if_neg (by omega),Nat.sub_add_cancel (by omega)];exact hs);rw [e];exact ⟨by omega,by rw [Int.toNat_natCast,List.getElem?_eraseIdx,if_neg (by omega),Nat.sub_add_cancel (by omega)];exact hy⟩
inductive Ed where
 | set (x:Val)
 | drop
 | cut (n:Nat)
def Ed.f:Ed→Val→Nat→Val
 | .drop=>withoutV
 | .cut n=>cutV n
 | .set x=>fun v j=>swapV v j x
def Ed.run:Ed→Val→List Str→Val×Bool
 | .set x,v,p=>setP v p x
 | .drop,v,p=>(atV withoutV v p,true)
 | .cut n,v,p=>(atV (cutV n) v p,true)
def emp:Val:=.mk 7 0 [] [] []
theorem runIn {e:Ed} {v y:Val} {s:Str} {p:List Str} (h:0≤placeV v s) (hp:p≠[]) (hy:v.items[(placeV v s).toNat]?=some y):e.run v (s :: p)=(swapV v (placeV v s).toNat (e.run y p).1,(e.run y p).2):=by
 have hg:v.items.getD (placeV v s).toNat v=y:=by rw [List.getD_eq_getElem?_getD,hy];rfl
 cases e with
 | set x=>simp only [Ed.run];rw [setP,if_pos h,hg]
 | drop=>simp only [Ed.run];rw [atV,if_neg (by omega),if_neg hp,hg]
 | cut n=>simp only [Ed.run];rw [atV,if_neg (by omega),if_neg hp,hg]
theorem run_last {e:Ed} {v:Val} {s:Str} (h:0≤placeV v s):e.run v [s]=(e.f v (placeV v s).toNat,true):=by
 cases e with
 | set x=>simp only [Ed.run,Ed.f];rw [setP,if_pos h];rfl
 | drop=>simp only [Ed.run,Ed.f];rw [atV,if_neg (by omega),if_pos rfl]
 | cut n=>simp only [Ed.run,Ed.f];rw [atV,if_neg (by omega),if_pos rfl]
theorem run_out {e:Ed} {v:Val} {s:Str} {p:List Str} (h:placeV v s < 0) (hok:(e.run v (s :: p)).2=true) :
    (∃ x,e=.set x∧v.kind=7∧(e.run v (s :: p)).1=growV v s (e.run emp p).1∧(e.run emp p).2=true)∨
    (∃ x,e=.set x∧v.kind=6∧p=[]∧stepI s=v.items.length∧(e.run v (s :: p)).1=growV v [] x)∨
    ((∀ x,e≠.set x)∧e.run v (s :: p)=(v,true)):=by
  cases e with
  | set x=>
    simp only [Ed.run] at hok ⊢;rw [setP,if_neg (by omega)] at hok ⊢;split at hok
    · rename_i h7;rw [if_pos h7];exact .inl ⟨x,rfl,h7,rfl,hok⟩
    · rename_i h7;rw [if_neg h7];split at hok
      · rename_i h6;rw [if_pos h6];simp only [Bool.and_eq_true,decide_eq_true_eq,ixB] at hok;obtain ⟨⟨h1,h2⟩,h3⟩:=hok;unfold ixI at h2;rw [if_pos h1] at h2;exact .inr (.inl ⟨x,rfl,h6,List.eq_nil_of_length_eq_zero (by omega),h2,rfl⟩)
      · cases hok
  | drop=>exact .inr (.inr ⟨by simp,by simp only [Ed.run];rw [atV,if_pos h]⟩)
  | cut n=>exact .inr (.inr ⟨by simp,by simp only [Ed.run];rw [atV,if_pos h]⟩)
theorem run_out2 {e:Ed} {v:Val} {s:Str} {p:List Str} (h:placeV v s < 0) (he:∀ x,e≠.set x):e.run v (s :: p)=(v,true):=by
 cases e with
 | set x=>exact absurd rfl (he x)
 | drop=>simp only [Ed.run];rw [atV,if_pos h]
 | cut n=>simp only [Ed.run];rw [atV,if_pos h]
theorem may_emp:mayV emp=true:=may_e
theorem place_emp (s:Str):placeV emp s < 0:=by
 rw [place_of7 rfl,idx_neg];simp [emp,Val.names]
theorem last_again {e:Ed} {v:Val} (hv:mayV v=true) {s:Str} (h:0≤placeV v s):e.run (e.f v (placeV v s).toNat) [s]=(e.f v (placeV v s).toNat,true):=by
 obtain ⟨y,hy,hmy⟩:=item_at hv h;have hlt:(placeV v s).toNat < v.items.length:=(List.getElem?_eq_some_iff.1 hy).1;have sw:∀ x,(∀ w,e.f w (placeV v s).toNat=e.f w (placeV v s).toNat)→e.f v (placeV v s).toNat=swapV v (placeV v s).toNat x→e.f (swapV v (placeV v s).toNat x) (placeV v s).toNat=swapV v (placeV v s).toNat x→e.run (e.f v (placeV v s).toNat) [s]=(e.f v (placeV v s).toNat,true):=by
  intro x _ h1 h2;rw [h1,run_last (by rw [place_swap];exact h),place_swap,h2]
 cases e with
 | set x=>exact sw x (fun _=>rfl) rfl (swap_swap _ _ _ _)
 | drop=>
  by_cases h6:v.kind=6
  ·refine sw nullV (fun _=>rfl) (if_pos h6) ?_;show withoutV _ _=_;rw [withoutV,if_pos (by exact h6),swap_swap]
  ·have h7:v.kind=7:=by
    by_cases h7:v.kind=7
    ·exact h7
    ·exfalso;have e:placeV v s=-1:=by unfold placeV;rw [if_neg h7,if_neg h6]
     omega
   refine (run_out2 ?_ (by simp)).trans rfl;show placeV (withoutV v _) s < 0;have hd:=may_doc hv h7;have hs:=(idx_spec (j:=(placeV v s).toNat) (s:=s) hd.1).1 (by rw [← place_of7 h7];omega);rw [erase_kind v _ h6,place_of7 (by exact h7),idx_neg];show s ∉ v.names.eraseIdx _;intro hm;obtain ⟨k,hk⟩:=List.getElem?_of_mem hm;rw [List.getElem?_eraseIdx] at hk;split at hk
   ·have:=(List.getElem?_inj (List.getElem?_eq_some_iff.1 hk).1 hd.1).1 (hk.trans hs.symm);omega
   ·have:=(List.getElem?_inj (List.getElem?_eq_some_iff.1 hk).1 hd.1).1 (hk.trans hs.symm);omega
 | cut n=>
  have hg:v.items.getD (placeV v s).toNat v=y:=by rw [List.getD_eq_getElem?_getD,hy];rfl
  by_cases hc:y.kind≠6∨y.items.length≤n
  ·have e1:cutV n v (placeV v s).toNat=v:=by rw [cutV,hg,if_pos hc]
   show Ed.run _ (cutV n v _) _=(cutV n v _,true);rw [e1,run_last h];exact congrArg (·,true) e1
  ·refine sw (cutI n y) (fun _=>rfl) (by show cutV n v _=_;rw [cutV,hg,if_neg hc]) ?_;show cutV n (swapV v _ (cutI n y)) _=_;have hg2:(swapV v (placeV v s).toNat (cutI n y)).items.getD (placeV v s).toNat (swapV v (placeV v s).toNat (cutI n y))=cutI n y:=by
    rw [List.getD_eq_getElem?_getD,item_swap_same hlt];rfl
   rw [cutV,hg2,if_pos];exact .inr (by show (y.items.take n).length≤n;rw [List.length_take];omega)
theorem run_again (e:Ed):∀ (p:List Str) (v:Val),mayV v=true→(e.run v p).2=true→e.run (e.run v p).1 p=((e.run v p).1,true)
 | [],v,_,_=>by cases e <;> rfl
 | s :: p,v,hv,hok=>by
  by_cases h:0≤placeV v s
  ·by_cases hp:p=[]
   ·subst hp;rw [run_last h];exact last_again hv h
   ·obtain ⟨y,hy,hmy⟩:=item_at hv h;have hlt:(placeV v s).toNat < v.items.length:=(List.getElem?_eq_some_iff.1 hy).1;rw [runIn h hp hy] at hok ⊢;have ih:=run_again e p y hmy hok;rw [runIn (y:=(e.run y p).1) (by rw [place_swap];exact h) hp (by rw [place_swap];exact item_swap_same hlt),ih,place_swap,swap_swap]
  ·rcases run_out (by omega) hok with ⟨x,rfl,h7,h1,h2⟩ | ⟨x,rfl,h6,rfl,h1,h2⟩ | ⟨he,h1⟩
   ·have ih:=run_again (.set x) p emp may_emp h2;rw [h1];have hpl:=place_grow7_same (x:=(Ed.run (.set x) emp p).1) hv h7 (show placeV v s < 0 by omega);have hit:(growV v s (Ed.run (.set x) emp p).1).items[(placeV (growV v s (Ed.run (.set x) emp p).1) s).toNat]?=some (Ed.run (.set x) emp p).1:=by
     rw [hpl,grow_items,Int.toNat_natCast];simp
    by_cases hp:p=[]
    ·subst hp;rw [run_last (by omega)];exact congrArg (fun z=>(z,true)) (swap_same hit)
    ·rw [runIn (by omega) hp hit,ih,swap_same hit]
   ·have h7:¬ v.kind=7:=by omega
    rw [h2];have hpl:placeV (growV v [] x) s=v.items.length:=by
     unfold placeV;rw [grow_kind,if_neg h7,if_pos h6,grow_items,List.length_append,List.length_singleton,if_pos (by omega),h1]
    have hit:(growV v [] x).items[(placeV (growV v [] x) s).toNat]?=some x:=by
     rw [hpl,grow_items,Int.toNat_natCast];simp
    rw [run_last (by omega)];show (swapV _ _ x,true)=_;rw [swap_same hit]
   ·rw [h1];exact h1
def fix (e:Ed) (v:Val) (p:List Str):Prop:=e.run v p=(v,true)
theorem fix_in {e:Ed} {v y:Val} {s:Str} {p:List Str} (hv:mayV v=true) (h:0≤placeV v s) (hp:p≠[]) (hy:v.items[(placeV v s).toNat]?=some y):fix e v (s :: p)↔fix e y p:=by
 unfold fix;rw [runIn h hp hy];have hlt:(placeV v s).toNat < v.items.length:=(List.getElem?_eq_some_iff.1 hy).1;constructor
 ·intro hh;simp only [Prod.mk.injEq] at hh;have h1:=swap_eq hlt hh.1;rw [hy] at h1;exact Prod.ext (by simpa using h1.symm) hh.2
 ·intro hh;rw [hh];exact Prod.ext (swap_same hy) rfl
def lastOk:Ed→Val→Prop
 | .set x,y=>y=x
 | .drop,y=>y=nullV
 | .cut n,y=>y.kind≠6∨y.items.length≤n
theorem fix_last {e:Ed} {v y:Val} {s:Str} (hv:mayV v=true) (h:0≤placeV v s) (hy:v.items[(placeV v s).toNat]?=some y):fix e v [s]↔(lastOk e y∧(e=.drop→v.kind=6)):=by
 unfold fix;rw [run_last h];have hlt:(placeV v s).toNat < v.items.length:=(List.getElem?_eq_some_iff.1 hy).1;have sw:∀ x,swapV v (placeV v s).toNat x=v↔y=x:=fun x=>⟨fun hh=>by
  have h1:=swap_eq hlt hh;rw [hy] at h1;simpa using h1,fun hh=>by subst hh;exact swap_same hy⟩
 cases e with
 | set x=>simp only [Prod.mk.injEq,and_true,Ed.f,lastOk,reduceCtorEq,false_implies];exact sw x
 | drop=>
  simp only [Prod.mk.injEq,and_true,Ed.f,lastOk,true_implies];by_cases h6:v.kind=6
  ·rw [withoutV,if_pos h6];exact ⟨fun hh=>⟨(sw _).1 hh,h6⟩,fun hh=>(sw _).2 hh.1⟩
  ·refine ⟨fun hh=>?_,fun hh=>absurd hh.2 h6⟩;exfalso;rw [erase_kind v _ h6] at hh;have:(v.items.eraseIdx (placeV v s).toNat).length=v.items.length:=by
    have:=congrArg Val.items hh;exact congrArg List.length this
   rw [List.length_eraseIdx,if_pos hlt] at this;omega
 | cut n=>
  have hg:v.items.getD (placeV v s).toNat v=y:=by rw [List.getD_eq_getElem?_getD,hy];rfl
  simp only [Prod.mk.injEq,and_true,Ed.f,lastOk,reduceCtorEq,false_implies];by_cases hc:y.kind≠6∨y.items.length≤n
  ·rw [cutV,hg,if_pos hc];exact ⟨fun _=>hc,fun _=>rfl⟩
  ·rw [cutV,hg,if_neg hc,sw];refine ⟨fun hh=>?_,fun hh=>absurd hh hc⟩;exfalso;have:y.items.length=(y.items.take n).length:=congrArg (fun z=>(Val.items z).length) hh;rw [List.length_take] at this;exact hc (.inr (by omega))
theorem fix_out {e:Ed} {v:Val} {s:Str} {p:List Str} (h:placeV v s < 0):fix e v (s :: p)↔∀ x,e≠.set x:=by
 constructor
 ·intro hf x hx;subst hx;rcases run_out (p:=p) h (by rw [hf]) with ⟨x,_,h7,h1,_⟩ | ⟨x,_,h6,_,_,h1⟩ | ⟨h1,_⟩
  ·rw [hf] at h1;have:=congrArg (fun z=>(Val.items z).length) h1;simp only [grow_items,List.length_append,List.length_singleton] at this;omega
  ·rw [hf] at h1;have:=congrArg (fun z=>(Val.items z).length) h1;simp only [grow_items,List.length_append,List.length_singleton] at this;omega
  ·exact h1 _ rfl
 ·exact fun he=>run_out2 h he
theorem fix_move {e:Ed} {v v':Val} {s:Str} {p:List Str} (hv:mayV v=true) (hv':mayV v'=true) (hk:v'.kind=v.kind) (ho:placeV v s < 0→placeV v' s < 0)
    (hi:0≤placeV v s→∃ y,v.items[(placeV v s).toNat]?=some y∧0≤placeV v' s∧v'.items[(placeV v' s).toNat]?=some y) (h:fix e v (s :: p)):fix e v' (s :: p):=by
  by_cases h0:placeV v s < 0
  · exact (fix_out (ho h0)).2 ((fix_out h0).1 h)
  · obtain ⟨y,h1,h2,h3⟩:=hi (by omega);by_cases hp:p=[]
    · subst hp;have:=(fix_last hv (by omega) h1).1 h;exact (fix_last hv' h2 h3).2 ⟨this.1,fun he=>by rw [hk];exact this.2 he⟩
    · exact (fix_in hv' h2 hp h3).2 ((fix_in hv (by omega) hp h1).1 h)
def divP:List Str→List Str→Prop
 | s :: p,t :: q=>s≠t∨divP p q
 | _,_=>False
theorem fix_keep (hmay:∀ (d:Ed) (v:Val) (p:List Str),mayV v=true→(∀ x,d=.set x→mayV x=true)→(d.run v p).2=true→(∀ s∈p,nameV s=true)→mayV (d.run v p).1=true) (e d:Ed) (hd:∀ x,d=.set x→mayV x=true) :
    ∀ (p q:List Str) (v:Val),mayV v=true→divP p q→(∀ s∈q,nameV s=true)→(d.run v q).2=true→fix e v p→fix e (d.run v q).1 p
  | [],q,v,_,h,_,_,_=>by cases q <;> simp [divP] at h
  | s :: p,[],v,_,h,_,_,_=>by simp [divP] at h
  | s :: p,t :: q,v,hv,hdv,hns,hok,hf=>by
    have hv':=hmay d v (t :: q) hv hd hok hns;by_cases hst:s=t
    · subst hst;have hdv':divP p q:=by simpa [divP] using hdv
      have hp:p≠[]:=by intro e;subst e;cases q <;> simp [divP] at hdv'
      have hq:q≠[]:=by intro e;subst e;cases p <;> simp [divP] at hdv'
      have hns':∀ s∈q,nameV s=true:=fun s hs=>hns s (by simp [hs]);by_cases h0:0≤placeV v s
      · obtain ⟨y,hy,hmy⟩:=item_at hv h0;have hlt:(placeV v s).toNat < v.items.length:=(List.getElem?_eq_some_iff.1 hy).1;have e1:=runIn (e:=d) h0 hq hy;rw [e1] at hok hv' ⊢;refine (fix_in hv' (by rw [place_swap];exact h0) hp (by rw [place_swap];exact item_swap_same hlt)).2 ?_;exact fix_keep hmay e d hd p q y hmy hdv' hns' hok ((fix_in hv h0 hp hy).1 hf)
      · have he:=(fix_out (by omega)).1 hf;rcases run_out (by omega) hok with ⟨x,rfl,h7,h1,h2⟩ | ⟨x,rfl,h6,h1,_⟩ | ⟨_,h1⟩
        · rw [h1] at hv' ⊢;have hpl:=place_grow7_same (x:=(Ed.run (.set x) emp q).1) hv h7 (show placeV v s < 0 by omega);have hit:(growV v s (Ed.run (.set x) emp q).1).items[(placeV (growV v s (Ed.run (.set x) emp q).1) s).toNat]?=some (Ed.run (.set x) emp q).1:=by
            rw [hpl,grow_items,Int.toNat_natCast];simp
          refine (fix_in hv' (by omega) hp hit).2 ?_;refine fix_keep hmay e (.set x) hd p q emp may_emp hdv' hns' h2 ?_;cases p with
          | nil=>exact absurd rfl hp
          | cons s' p'=>exact (fix_out (place_emp s')).2 he
        · exact absurd h1 hq
        · rw [h1];exact hf
    · by_cases h0:0≤placeV v t
      · obtain ⟨y,hy,hmy⟩:=item_at hv h0;have hlt:(placeV v t).toNat < v.items.length:=(List.getElem?_eq_some_iff.1 hy).1;have sw:∀ z,(d.run v (t :: q)).1=swapV v (placeV v t).toNat z→fix e (d.run v (t :: q)).1 (s :: p):=by
          intro z hz;rw [hz] at hv' ⊢;refine fix_move hv hv' rfl (fun h=>by rw [place_swap];exact h) (fun h=>?_) hf;obtain ⟨u,hu,_⟩:=item_at hv h;refine ⟨u,hu,by rw [place_swap];exact h,?_⟩;have:=place_ne hv hst h;rw [place_swap,item_swap (by omega)];exact hu
        by_cases hq:q=[]
        · subst hq;have e1:=run_last (e:=d) h0;cases d with
          | set x=>exact sw x (by rw [e1];rfl)
          | drop=>
            by_cases h6:v.kind=6
            · exact sw nullV (by rw [e1];exact if_pos h6)
            · have h7:v.kind=7:=by
                by_cases h7:v.kind=7
                · exact h7
                · unfold placeV at h0;rw [if_neg h7,if_neg h6] at h0;omega
              rw [e1] at hv' ⊢;have hd2:=may_doc hv h7;have ht:=(idx_spec (j:=(placeV v t).toNat) (s:=t) hd2.1).1 (by rw [← place_of7 h7];omega);have hne:v.names[(placeV v t).toNat]?≠some s:=fun hh=>by rw [ht] at hh;exact hst (by simpa using hh.symm)
              refine fix_move hv hv' (by show (withoutV v _).kind=_;rw [erase_kind v _ h6];rfl) (fun h=>(place_erase (y:=y) hv h7 hne).1 h) (fun h=>?_) hf;obtain ⟨u,hu,_⟩:=item_at hv h;have:=(place_erase (y:=u) hv h7 hne).2 h hu;exact ⟨u,hu,this.1,this.2⟩
          | cut n=>
            have hg:v.items.getD (placeV v t).toNat v=y:=by rw [List.getD_eq_getElem?_getD,hy];rfl
            by_cases hc:y.kind≠6∨y.items.length≤n
            · rw [e1];show fix e (cutV n v _) _;rw [cutV,hg,if_pos hc];exact hf
            · exact sw (cutI n y) (by rw [e1];show cutV n v _=_;rw [cutV,hg,if_neg hc])
        · exact sw _ (by rw [runIn h0 hq hy])
      · rcases run_out (by omega) hok with ⟨x,rfl,h7,h1,h2⟩ | ⟨x,rfl,h6,rfl,h3,h1⟩ | ⟨_,h1⟩
        · rw [h1] at hv' ⊢;refine fix_move hv hv' rfl (fun h=>by rw [place_grow7 hv h7 hst];exact h) (fun h=>?_) hf;obtain ⟨u,hu,_⟩:=item_at hv h;refine ⟨u,hu,by rw [place_grow7 hv h7 hst];exact h,?_⟩;rw [place_grow7 hv h7 hst,grow_items,List.getElem?_append_left (List.getElem?_eq_some_iff.1 hu).1];exact hu
        · rw [h1] at hv' ⊢;refine fix_move hv hv' rfl (fun h=>by rw [place_grow6 h6 hst h3];exact h) (fun h=>?_) hf;obtain ⟨u,hu,_⟩:=item_at hv h;refine ⟨u,hu,by rw [place_grow6 h6 hst h3];exact h,?_⟩;rw [place_grow6 h6 hst h3,grow_items,List.getElem?_append_left (List.getElem?_eq_some_iff.1 hu).1];exact hu
        · rw [h1];exact hf
def edOf (d:Dlt):Ed:=if d.kind=1 then .set d.value else if d.kind=2 then .drop else .cut d.n.toNat
theorem do_run {v:Val} {d:Dlt} (hv:mayV v=true) (h7:v.kind=7) (hd:mayD d=true):(edOf d).run v d.path=(doV v d,decide (doE v d=0)):=by
 have hmd:=hd;rw [mayD,Bool.and_eq_true] at hmd;have hz:chkT v d.path=0:=by unfold chkT;rw [if_neg (by simp [h7,hv]),if_pos hmd.1]
 unfold edOf doV doE;by_cases h1:d.kind=1
 ·rw [if_pos h1,if_pos h1,if_pos h1];have hx:mayV d.value=true:=by
   have h3:=hmd.2;rw [if_pos h1,Bool.and_eq_true,decide_eq_true_eq] at h3;exact check_may h3.1
  have hA:¬ (v.kind=7∧mayV d.value=false):=fun e=>by rw [hx] at e;cases e.2
  show setP v d.path d.value=_;cases hy:(setP v d.path d.value).2 with
  | true=>rw [(set_d hA hz hy).2];exact Prod.ext rfl hy
  | false=>rw [(set_c hA hz hy).2];exact Prod.ext rfl hy
 ·rw [if_neg h1,if_neg h1,if_neg h1];by_cases h2:d.kind=2
  ·rw [if_pos h2,if_pos h2,if_pos h2,hz];rfl
  ·rw [if_neg h2,if_neg h2,if_neg h2];have h3:=hmd.2;rw [if_neg h1,if_neg h2] at h3;have hn:¬ d.n < 0:=by
    split at h3
    ·simp only [Bool.and_eq_true,decide_eq_true_eq] at h3;omega
    ·cases h3
   rw [cutE,if_pos hz,if_neg hn];rfl
theorem run_may (d:Ed) (v:Val) (p:List Str) (hv:mayV v=true) (hd:∀ x,d=.set x→mayV x=true) (hok:(d.run v p).2=true) (hn:∀ s∈p,nameV s=true):mayV (d.run v p).1=true:=by
 cases d with
 | set x=>exact (may_setP p v x hv (List.all_eq_true.2 hn) (hd x rfl) hok).1
 | drop=>exact (may_at (f:=withoutV) (fun v j h hk hj=>⟨may_without h hk hj,by unfold withoutV;split <;> rfl⟩) p v hv).1
 | cut n=>exact (may_at (f:=cutV n) (fun v j h hk hj=>⟨may_cutV h hj,by unfold cutV;split <;> rfl⟩) p v hv).1
theorem ed_may {d:Dlt} (hd:mayD d=true):∀ x,edOf d=.set x→mayV x=true:=by
 intro x hx;unfold edOf at hx;split at hx
 ·rename_i h1;simp only [Ed.set.injEq] at hx;subst hx;rw [mayD,Bool.and_eq_true] at hd;have h3:=hd.2;rw [if_pos h1,Bool.and_eq_true,decide_eq_true_eq] at h3;exact check_may h3.1
 ·split at hx <;> cases hx
theorem path_names {d:Dlt} (hd:mayD d=true):∀ s∈d.path,nameV s=true:=by
 rw [mayD,Bool.and_eq_true] at hd;have:=hd.1;simp only [pathV,Bool.and_eq_true] at this;exact List.all_eq_true.1 this.1.1
def Fx (v:Val) (d:Dlt):Prop:=doE v d=0∧doV v d=v
theorem fx_iff {v:Val} {d:Dlt} (hv:mayV v=true) (h7:v.kind=7) (hd:mayD d=true):Fx v d↔fix (edOf d) v d.path:=by
 unfold Fx fix;rw [do_run hv h7 hd];simp only [Prod.mk.injEq,decide_eq_true_eq];exact And.comm
theorem fx_again {v:Val} {d:Dlt} (hv:mayV v=true) (h7:v.kind=7) (hd:mayD d=true) (he:doE v d=0):Fx (doV v d) d:=by
 have h:=do_may hv h7 hd he;rw [fx_iff h.1 h.2 hd];have h1:=do_run hv h7 hd;have h2:=run_again (edOf d) d.path v hv (by rw [h1];simpa using he);rw [h1] at h2;exact h2
theorem fx_keep {v:Val} {e d:Dlt} (hv:mayV v=true) (h7:v.kind=7) (hde:mayD e=true) (hd:mayD d=true) (he:doE v d=0) (hdiv:divP e.path d.path) (hf:Fx v e):Fx (doV v d) e:=by
 have h:=do_may hv h7 hd he;rw [fx_iff h.1 h.2 hde];rw [fx_iff hv h7 hde] at hf;have h1:=do_run hv h7 hd;have h2:=fix_keep run_may (edOf e) (edOf d) (ed_may hd) e.path d.path v hv hdiv (path_names hd) (by rw [h1];simpa using he) hf;rw [h1] at h2;exact h2
theorem app_fx:∀ (l:List Dlt) (v:Val) (done:List Dlt),mayV v=true→v.kind=7→(∀ d∈l,mayD d=true)→(∀ d∈done,mayD d=true)→(∀ e∈done,∀ d∈l,divP e.path d.path)→l.Pairwise (fun d e=>divP d.path e.path∧divP e.path d.path)→(∀ e∈done,Fx v e)→(appP l v).2=0→
    mayV (appP l v).1=true∧(appP l v).1.kind=7∧(∀ e∈done,Fx (appP l v).1 e)∧∀ e∈l,Fx (appP l v).1 e
  | [],v,done,hv,h7,_,_,_,_,hf,_=>⟨hv,h7,hf,by simp⟩
  | d :: l,v,done,hv,h7,hl,hdn,hdl,hp,hf,h0=>by
    have hd:=hl d (by simp);rw [appP] at h0 ⊢;by_cases he:doE v d=0
    · rw [if_pos he] at h0 ⊢;have hm:=do_may hv h7 hd he;rw [List.pairwise_cons] at hp;have ih:=app_fx l (doV v d) (d :: done) hm.1 hm.2 (fun x hx=>hl x (by simp [hx])) (fun x hx=>by
          rcases List.mem_cons.1 hx with rfl | hx
          · exact hd
          · exact hdn x hx) (fun e hx x hxl=>by
          rcases List.mem_cons.1 hx with rfl | hx
          · exact (hp.1 x hxl).1
          · exact hdl e hx x (by simp [hxl])) hp.2 (fun e hx=>by
          rcases List.mem_cons.1 hx with rfl | hx
          · exact fx_again hv h7 hd he
          · exact fx_keep hv h7 (hdn e hx) hd he (hdl e hx d (by simp)) (hf e hx)) h0
      refine ⟨ih.1,ih.2.1,fun e hx=>ih.2.2.1 e (by simp [hx]),fun e hx=>?_⟩;rcases List.mem_cons.1 hx with rfl | hx
      · exact ih.2.2.1 e (by simp)
      · exact ih.2.2.2 e hx
    · rw [if_neg he] at h0;exact absurd h0 he
theorem app_fixed:∀ (l:List Dlt) (v:Val),(∀ e∈l,Fx v e)→appP l v=(v,0)
 | [],v,_=>rfl
 | d :: l,v,h=>by
  have hd:=h d (by simp);rw [appP,if_pos hd.1,hd.2];exact app_fixed l v fun e he=>h e (by simp [he])
theorem div_of:∀ {p q:List Str},beginsV p q=false→beginsV q p=false→divP p q
 | [],q,h,_=>by simp [beginsV] at h
 | s :: p,[],_,h=>by simp [beginsV] at h
 | s :: p,t :: q,h1,h2=>by
  by_cases hst:s=t
  ·subst hst;right;refine div_of ?_ ?_
   ·simpa [beginsV,List.cons_prefix_cons] using h1
   ·simpa [beginsV,List.cons_prefix_cons] using h2
  ·exact .inl hst
def freeR (l:List Dlt):Prop:=∀ (i k:Nat) (d e:Dlt),k < i→l[i]?=some d→l[k]?=some e→beginsV d.path e.path=false∧beginsV e.path d.path=false
theorem free_pair {l:List Dlt} (h:freeR l):l.Pairwise (fun d e=>divP d.path e.path∧divP e.path d.path):=by
 rw [List.pairwise_iff_getElem];intro i j hi hj hij;have:=h j i l[j] l[i] hij (List.getElem?_eq_getElem hj) (List.getElem?_eq_getElem hi);exact ⟨div_of this.2 this.1,div_of this.1 this.2⟩
theorem apply_twice {v:Val} {l:List Dlt} (hf:freeR l) (h0:applyE v l=0):applyE (appP l v).1 l=0∧appP l (appP l v).1=((appP l v).1,0):=by
 unfold applyE at h0;split at h0
 ·rename_i hc;exact absurd h0 hc
 ·rename_i hc;have hc:checkD l=0:=Classical.not_not.1 hc;split at h0
  ·cases h0
  ·rename_i hv;have hv1:mayV v=true:=by cases hm:mayV v with | true=>rfl | false=>exact absurd (.inr hm) hv
   have h7:v.kind=7:=Classical.not_not.1 fun e=>hv (.inl e);have h:=app_fx l v [] hv1 h7 (fun d hd=>checkD_all hc d hd) (by simp) (by simp) (free_pair hf) (by simp) h0;have hfx:=app_fixed l _ h.2.2.2;refine ⟨?_,hfx⟩;unfold applyE;rw [if_neg (by simpa using hc),if_neg (by simp [h.1,h.2.1]),hfx]
end Go.Proofs.Ytpkcbdhjnnnkbaa.Abs

namespace Go.Proofs.Ytpkcbdhjnnnkbaa.Abs.Run11
open Go
noncomputable def tbl:List (Nat×Func):=[(11,Try.f11),(12,Try.f12),(24,Try.f24),(25,Try.f25),(26,Try.f26),(27,Try.f27),(28,Try.f28),(29,Try.f29),(30,Try.f30),(31,Try.f31),(32,Try.f32),(33,Try.f33),(34,Try.f34),(35,Try.f35),(36,Try.f36),(40,Try.f40),(42,Try.f42),(43,Try.f43),(44,Try.f44),(45,Try.f45),(46,Try.f46),(47,Try.f47),(48,Try.f48),(49,Try.f49),(50,Try.f50),(51,Try.f51),(52,Try.f52),(53,Try.f53),(54,Try.f54),(55,Try.f55),(56,Try.f56),(57,Try.f57),(58,Try.f58),(59,Try.f59),(60,Try.f60),(61,Try.f61),(62,Try.f62),(63,Try.f63),(68,Try.f68),(69,Try.f69),(71,Try.f71),(72,Try.f72),(73,Try.f73),(74,Try.f74),(75,Try.f75),(76,Try.f76),(77,Try.f77),(78,Try.f78),(79,Try.f79),(80,Try.f80),(81,Try.f81),(82,Try.f82),(83,Try.f83),(84,Try.f84),(85,Try.f85),(86,Try.f86),(87,Try.f87),(88,Try.f88),(89,Try.f89),(90,Try.f90),(91,Try.f91),(92,Try.f92),(93,Try.f93),(94,Try.f94),(98,Try.f98),(99,Try.f99),(101,Try.f101),(102,Try.f102),(103,Try.f103),(104,Try.f104),(105,Try.f105),(106,Try.f106),(107,Try.f107),(108,Try.f108),(109,Try.f109),(110,Try.f110),(111,Try.f111),(112,Try.f112),(113,Try.f113),(114,Try.f114),(115,Try.f115),(123,Try.f123),(124,Try.f124),(125,Try.f125),(126,Try.f126),(127,Try.f127),(128,Try.f128),(132,Try.f132),(134,Try.f134),(136,Try.f136),(137,Try.f137),(142,Try.f142)]
theorem tbl_ok : ∀ p ∈ tbl, Try.prog.funcs[p.1]? = some p.2 ∧ (p.2.name == "runtime.NumGoroutine") = false := by
 simp only [tbl,List.forall_mem_cons];exact ⟨⟨Try.func11,by kernel_rfl⟩,⟨Try.func12,by kernel_rfl⟩,⟨Try.func24,by kernel_rfl⟩,⟨Try.func25,by kernel_rfl⟩,⟨Try.func26,by kernel_rfl⟩,⟨Try.func27,by kernel_rfl⟩,⟨Try.func28,by kernel_rfl⟩,⟨Try.func29,by kernel_rfl⟩,⟨Try.func30,by kernel_rfl⟩,⟨Try.func31,by kernel_rfl⟩,⟨Try.func32,by kernel_rfl⟩,⟨Try.func33,by kernel_rfl⟩,⟨Try.func34,by kernel_rfl⟩,⟨Try.func35,by kernel_rfl⟩,⟨Try.func36,by kernel_rfl⟩,⟨Try.func40,by kernel_rfl⟩,⟨Try.func42,by kernel_rfl⟩,⟨Try.func43,by kernel_rfl⟩,⟨Try.func44,by kernel_rfl⟩,⟨Try.func45,by kernel_rfl⟩,⟨Try.func46,by kernel_rfl⟩,⟨Try.func47,by kernel_rfl⟩,⟨Try.func48,by kernel_rfl⟩,⟨Try.func49,by kernel_rfl⟩,⟨Try.func50,by kernel_rfl⟩,⟨Try.func51,by kernel_rfl⟩,⟨Try.func52,by kernel_rfl⟩,⟨Try.func53,by kernel_rfl⟩,⟨Try.func54,by kernel_rfl⟩,⟨Try.func55,by kernel_rfl⟩,⟨Try.func56,by kernel_rfl⟩,⟨Try.func57,by kernel_rfl⟩,⟨Try.func58,by kernel_rfl⟩,⟨Try.func59,by kernel_rfl⟩,⟨Try.func60,by kernel_rfl⟩,⟨Try.func61,by kernel_rfl⟩,⟨Try.func62,by kernel_rfl⟩,⟨Try.func63,by kernel_rfl⟩,⟨Try.func68,by kernel_rfl⟩,⟨Try.func69,by kernel_rfl⟩,⟨Try.func71,by kernel_rfl⟩,⟨Try.func72,by kernel_rfl⟩,⟨Try.func73,by kernel_rfl⟩,⟨Try.func74,by kernel_rfl⟩,⟨Try.func75,by kernel_rfl⟩,⟨Try.func76,by kernel_rfl⟩,⟨Try.func77,by kernel_rfl⟩,⟨Try.func78,by kernel_rfl⟩,⟨Try.func79,by kernel_rfl⟩,⟨Try.func80,by kernel_rfl⟩,⟨Try.func81,by kernel_rfl⟩,⟨Try.func82,by kernel_rfl⟩,⟨Try.func83,by kernel_rfl⟩,⟨Try.func84,by kernel_rfl⟩,⟨Try.func85,by kernel_rfl⟩,⟨Try.func86,by kernel_rfl⟩,⟨Try.func87,by kernel_rfl⟩,⟨Try.func88,by kernel_rfl⟩,⟨Try.func89,by kernel_rfl⟩,⟨Try.func90,by kernel_rfl⟩,⟨Try.func91,by kernel_rfl⟩,⟨Try.func92,by kernel_rfl⟩,⟨Try.func93,by kernel_rfl⟩,⟨Try.func94,by kernel_rfl⟩,⟨Try.func98,by kernel_rfl⟩,⟨Try.func99,by kernel_rfl⟩,⟨Try.func101,by kernel_rfl⟩,⟨Try.func102,by kernel_rfl⟩,⟨Try.func103,by kernel_rfl⟩,⟨Try.func104,by kernel_rfl⟩,⟨Try.func105,by kernel_rfl⟩,⟨Try.func106,by kernel_rfl⟩,⟨Try.func107,by kernel_rfl⟩,⟨Try.func108,by kernel_rfl⟩,⟨Try.func109,by kernel_rfl⟩,⟨Try.func110,by kernel_rfl⟩,⟨Try.func111,by kernel_rfl⟩,⟨Try.func112,by kernel_rfl⟩,⟨Try.func113,by kernel_rfl⟩,⟨Try.func114,by kernel_rfl⟩,⟨Try.func115,by kernel_rfl⟩,⟨Try.func123,by kernel_rfl⟩,⟨Try.func124,by kernel_rfl⟩,⟨Try.func125,by kernel_rfl⟩,⟨Try.func126,by kernel_rfl⟩,⟨Try.func127,by kernel_rfl⟩,⟨Try.func128,by kernel_rfl⟩,⟨Try.func132,by kernel_rfl⟩,⟨Try.func134,by kernel_rfl⟩,⟨Try.func136,by kernel_rfl⟩,⟨Try.func137,by kernel_rfl⟩,⟨Try.func142,by kernel_rfl⟩,by simp⟩
noncomputable def nofr:List Nat:=[24,27,43,45,48,49,75,76,80,81,82,83,84,107,113,115,125,126]
noncomputable def pures:List Nat:=[12,26,29,30,31,32,34,35,36,40,47,52,53,54,55,56,58,60,61,62,63,68,69,71,72,77,78,86,87,88,90,92,93,94,98,99,101,102,108,109,110,111,123,124,132,134,136,137,142]
def natF (f:Nat) (asx:List SV):Option D:=
 match asx with
 | [.d (.str s),.d (.int .u8 c)]=>bif Nat.beq f 141 then some (.int .i64 (Go.Lib.indexByte s c.toNat.toUInt8)) else none
 | [.d (.str s),.d (.str t)]=>bif Nat.beq f 145 then some (.int .i64 (Go.Lib.compareBytes s t)) else none
 | _=>none
theorem natF_ok (f:Nat) (asx:List SV) (d:D) (h:natF f asx=some d):PSpec Try.prog f asx (.d d):=by
 unfold natF at h;split at h
 ·rw [TM.beq_cond] at h;split at h
  ·rename_i hf;subst hf;simp only [Option.some.injEq] at h;subst h;exact s141 _ _
  ·cases h
 ·rw [TM.beq_cond] at h;split at h
  ·rename_i hf;subst hf;simp only [Option.some.injEq] at h;subst h;exact s145 _ _
  ·cases h
 ·cases h
noncomputable def env:Env:=⟨Θ,tbF tbl,natF,fun f=>(nofr++[0,1,2,3,4,5,6,7,8,9,10,11,12,13,14,15,16,17,18,19,20,21,22,23,24,25,26,27,28,29,30,31,32,33,34,35,36,37,38,39,40,41,42,43,44,45,46,47,48,49,50,51,52,53,54,55,56,57,58,59,60,61,62,63,64,65,66,67,68,69,70,71,72,73,74,75,76,77,78,79,80,81,82,83,84,85,86,87,88,89,90,91,92,93,94,95,96,97,98,99,100,101,102,103,104,105,106,107,108,109,110,111,112,113,114,115,116,117,118,119,120,121,122,123,124,125,126,127,128,129,130,131,132,133,134,135,136,137,138,139,140,141,142,143,144,145,146,147,148,149,150,151,152,153,154,155,156,157,158,159,160,161,162,163,164,165,166,167,168,169,170,171,172,173,174,175,176,177,178,179,180,181,182,183,184,185,186,187,188,189,190,191,192,193,194,195,196,197,198,199,200,201,202,203,204,205,206,207,208,209,210,211,212,213,214,215,216,217,218,219,220,221,222,223,224,225,226,227,228,229,230,231,232,233,234,235,236,237,238,239,240,241,242,243,244,245,246,247,248,249,250,251,252,253,254,255,256,257,258,259,260,261,262,263,264,265,266,267,268,269,270,271,272,273,274,275,276,277,278,279,280,281,282,283,284,285,286,287,288,289,290,291,292,293,294,295,296,297,298,299,300,301,302,303,304,305,306,307,308,309,310,311,312,313,314,315,316,317,318,319,320,321,322,323,324,325,326,327,328,329,330]).contains f,fun f=>pures.contains f,fun _ _ _ _=>none⟩
theorem envOk:EnvOk Try.prog env:=⟨tabOk,fun f fn h=>tbF_ok tbl tbl_ok f fn h,natF_ok,mix,fun _ _ _ _ _ _ _ h=>by cases h⟩
theorem ran:isD (.bool true) (xCall env 1000000 11 (([]:List D).map .d) .e 0)=true:=by kernel_rfl
theorem s:PSpec Try.prog 11 (([]:List D).map .d) (.d (.bool true)):=PSpec.run envOk 1000000 (xs:=([]:List D)) ran
end Go.Proofs.Ytpkcbdhjnnnkbaa.Abs.Run11
namespace Go.Proofs.Ytpkcbdhjnnnkbaa.Abs
theorem s11:PSpec Try.prog 11 (([]:List D).map .d) (.d (.bool true)):=Run11.s
noncomputable def tblY:List (Nat×Func):=[(4,Try.f4)]
theorem tblY_ok : ∀ p ∈ tblY, Try.prog.funcs[p.1]? = some p.2 ∧ (p.2.name == "runtime.NumGoroutine") = false := by
 simp only [tblY,List.forall_mem_cons];exact ⟨⟨Try.func4,by kernel_rfl⟩,by simp⟩
noncomputable def X0:YX:=⟨Θ,tbF tblY,fun _ _=>none,fun _=>false,fun _=>false,[],[]⟩
theorem hX0:YP Try.prog X0:=⟨tabOk,fun f fn h=>tbF_ok tblY tblY_ok f fn h,(fun _ _ _ _ h=>by cases h),mix⟩
noncomputable def S4:FS:=⟨47,bodyOf Try.f4,[.tmp 4],true,[.d (.agg [.v 0,.v 1,.v 2,.v 3,.v 4]),.d (.v 5)],[],0,[],.d (.v 0),⟨[],[],0⟩⟩
noncomputable def t4_0:Y:=.eq (.call ⟨8,[.d (.v 5)],[],.d (.v 6),[],0⟩) 1 <|
 .ite 6 (.eq (.call ⟨11,[],[],.d (.v 7),[],0⟩) 1 <|
  .ret [.v 7] []) <|
 .eq (.call ⟨9,[.d (.agg [.v 0,.v 1,.v 2,.v 3,.v 4])],[],.d (.v 7),[],0⟩) 1 <|
 .ite 7 (.eq (.call ⟨11,[],[],.d (.v 8),[],0⟩) 1 <|
  .ret [.v 8] []) <|
 .eq (.call ⟨10,[.d (.v 5)],[],.d (.v 8),[],0⟩) 1 <|
 .eq (.un .not (.v 8) (.v 9)) 1 <|
 .ite 9 (.eq (.call ⟨11,[],[],.d (.v 10),[],0⟩) 1 <|
  .ret [.v 10] []) <|
 .eq (.call ⟨12,[.d (.agg [.v 0,.v 1,.v 2,.v 3,.v 4]),.d (.v 5)],[],.tup [.d (.agg [.v 10,.v 11,.v 12,.v 13,.v 14]),.d (.v 15)],[],0⟩) 6 <|
 .eq (.call ⟨11,[],[],.d (.v 16),[],0⟩) 1 <|
 .eq (.un .not (.v 16) (.v 17)) 1 <|
 .ite 17 (.ret [.v 16] []) <|
 .eq (.bin .neq 35 (.v 15) (.int .i64 0) (.v 18)) 1 <|
 .ite 18 (.ret [.v 16] []) <|
 .eq (.call ⟨12,[.d (.agg [.v 10,.v 11,.v 12,.v 13,.v 14]),.d (.v 5)],[],.tup [.d (.agg [.v 19,.v 20,.v 21,.v 22,.v 23]),.d (.v 24)],[],0⟩) 6 <|
 .eq (.bin .eql 35 (.v 24) (.int .i64 0) (.v 25)) 1 <|
 .ite 25 (.eq (.call ⟨13,[.d (.agg [.v 10,.v 11,.v 12,.v 13,.v 14]),.d (.agg [.v 19,.v 20,.v 21,.v 22,.v 23])],[],.d (.v 26),[],0⟩) 1 <|
  .ret [.v 26] []) <|
 .ret [.bool false] []
theorem c4_0:pChk X0 S4 0 t4_0 6=true:=by kernel_rfl
theorem fnY4:FnOkC Try.prog 4 S4.n S4.rs S4.c:=⟨Try.f4,Try.func4,by kernel_rfl,by kernel_rfl,by kernel_rfl,by kernel_rfl⟩
theorem freeD_R {l:List Dlt} (h:freeD l=true):freeR l:=by
 have h:=List.pairwise_iff_getElem.1 (of_decide_eq_true h);intro i k d e hk h1 h2;obtain ⟨hi,rfl⟩:=List.getElem?_eq_some_iff.1 h1;obtain ⟨hk',rfl⟩:=List.getElem?_eq_some_iff.1 h2;have:=h k i hk' hi hk;simp only [meetV,Bool.or_eq_false_iff] at this;exact ⟨this.2,this.1⟩
theorem szV_app:∀ (l:List Dlt) (v:Val) (B:Nat),(∀ d∈l,dS d≤B)→szV (appP l v).1≤szV v+l.length * B
 | [],v,B,_=>by simp [appP]
 | d :: l,v,B,h=>by
  rw [appP];by_cases he:doE v d=0
  ·rw [if_pos he];have h1:=szV_do (d:=d) (doE_may he);have h2:=szV_app l (doV v d) B (fun x hx=>h x (by simp [hx]));have h3:=h d (by simp);rw [List.length_cons,Nat.succ_mul];omega
  ·rw [if_neg he];exact Nat.le_add_right _ _
noncomputable def appA (v:Val) (l:List Dlt):Val:=if applyE v l=0 then (appP l v).1 else zeroV
theorem s12w (v:Val) (l:List Dlt) (hok:∀ d∈l,okD d) (hsz:szV v≤274877906944) (hds:∀ d∈l,dS d≤1073741824):PSpec Try.prog 12 [.d (encV v),.d (.sl 8 (l.map encD))] (.tup ([encV (appA v l),.int .i64 (applyE v l)].map .d)):=by
 refine (s12 v l hok hsz (fun d hd=>Nat.le_trans (hds d hd) (by decide))).leT ?_;simp only [D.les,D.le_refl,and_true,applyD,appA];split
 ·exact D.le_refl _
 ·exact zAgg_le
theorem s4 (v:Val) (l:List Dlt) (hok:∀ d∈l,okD d) (hszd:∀ d∈l,szV d.value≤1099511627776) (hsz:szV v≤137438953472) (hds:∀ d∈l,dS d≤1073741824):PSpec Try.prog 4 [.d (.agg (valCells v)),.d (.sl 8 (l.map encD))] (.d (.bool true)):=by
 refine PSpec.ofY (S:=S4) (l:=valCells v++[.sl 8 (l.map encD)]) hX0.hΘ fnY4 (Nat.le_of_ble_eq_true rfl) ⟨rfl,rfl⟩ rfl rfl rfl rfl (FAt.of hX0 c4_0 rfl ?_);refine y_call (s8 l hszd) rfl rfl rfl ?_;refine y_if rfl (fun h=>?_) (fun h=>?_)
 ·refine y_call s11 rfl rfl rfl ?_;exact y_ret (SV.le2_of rfl)
 refine y_call (pv (s9 v (by omega))) rfl rfl rfl ?_;refine y_if rfl (fun h=>?_) (fun h=>?_)
 ·refine y_call s11 rfl rfl rfl ?_;exact y_ret (SV.le2_of rfl)
 refine y_call (s10 l) rfl rfl rfl ?_;refine y_not rfl rfl ?_;refine y_if rfl (fun h=>?_) (fun h=>?_)
 ·refine y_call s11 rfl rfl rfl ?_;exact y_ret (SV.le2_of rfl)
 rename_i hf;have hf:freeD l=true:=by simpa using h
 obtain ⟨w,hw⟩:∃ w,w=appA v l:=⟨_,rfl⟩;have h12:=encV_eq v ▸ s12w v l hok (by omega) hds;rw [← hw,encV_eq w] at h12;refine y_calls (ds:=valCells w++[.int .i64 (applyE v l)]) h12 rfl rfl rfl rfl rfl ?_;refine y_call s11 rfl rfl rfl ?_;refine y_not rfl rfl ?_;refine y_if rfl (fun h=>?_) (fun h=>?_)
 ·exact y_ret (SV.le2_of rfl)
 refine y_int rfl rfl rfl rfl ?_;refine y_if rfl (fun h=>?_) (fun h=>?_)
 ·exact y_ret (SV.le2_of rfl)
 have h0:applyE v l=0:=by simpa using h
 have hwv:w=(appP l v).1:=by rw [hw,appA,if_pos h0]
 have htw:=apply_twice (freeD_R hf) h0;have hlen:l.length≤64:=checkD_len (by
  unfold applyE at h0;split at h0
  ·rename_i hz;exact absurd h0 hz
  ·rename_i hz;exact Classical.not_not.1 hz)
 have hszw:szV w≤274877906944:=by
  have h1:=szV_app l v 1073741824 hds;have h2:l.length * 1073741824≤64 * 1073741824:=Nat.mul_le_mul_right _ hlen;rw [hwv];omega
 have e2:applyE w l=0:=by rw [hwv];exact htw.1
 have ew:appA w l=w:=by
  rw [appA,if_pos e2];rw [hwv,htw.2]
 have h12b:=encV_eq w ▸ s12w w l hok hszw hds;rw [ew,encV_eq w,e2] at h12b;refine y_calls (ds:=valCells w++[.int .i64 0]) h12b rfl rfl rfl rfl rfl ?_;refine y_int rfl rfl rfl rfl ?_;refine y_if rfl (fun h=>?_) (fun h=>?_)
 ·have h13:=encV_eq w ▸ s13 w w;refine y_call h13 rfl rfl rfl ?_;refine y_ret (SV.le2_of ?_);show SV.d (.bool (sameV w w))=.d (.bool true);rw [same_refl]
 ·cases h
end Go.Proofs.Ytpkcbdhjnnnkbaa.Abs

namespace Go.Proofs.Ytpkcbdhjnnnkbaa.lawDeltaTwice
open Go Abs
open Go.ChangeShapes Go.WideShapes Go.ChangeAt Go.RowKit
theorem own:ownKnob Try.prog.godebug=none:=by kernel_rfl
theorem laid:laidOutB Try.prog=true:=by kernel_rfl
theorem contract (H:Type) (enc:TypeId×Value→H) (W:World) (base:Nat) (args:Array Value) (ds gs:List (DataW H)) (before:List MemPlace)
    (hval:∀ (j:Nat) t v,Try.f4.params[j]?=some t→args[j]?=some v→Value.okWide Try.prog W .any base t v)
    (hW:DataW.Whole enc Try.prog Try.f4.params.toList Rows.deltaTwiceSpec.vars false W args.toList ds gs before) (hk:Rows.uptoSmall H (ds++gs)=true) :
    Calls Try.prog 4 args W fun e W'=>∃ v,e=.returned v∧Rows.deltaTwiceSpec.post enc Try.prog Try.f4 false true false false W args v W':=by
  have hW':=hW;obtain ⟨p,q,hA0,hV,rfl,hfz,hnd⟩:=hW;have hA:DataW.TrodAll enc Try.prog W 0 (fun _=>true) true Try.f4.params.toList args.toList ds p:=hA0;rw [Try.params4] at hA hval;obtain ⟨v0,vs0,d0,ds0,p0,q0,hargs,rfl,rfl,h0,r0⟩:=trodAll_cons hA;obtain ⟨v1,vs1,d1,ds1,p1,q1,rfl,rfl,rfl,h1,r1⟩:=trodAll_cons r0;obtain ⟨rfl,rfl,rfl⟩:=trodAll_nil r1;obtain rfl:args=#[v0,v1]:=by cases args;simp_all
  obtain ⟨rfl,rfl⟩:=trodVars_none hV;clear hA0;simp only [List.append_nil] at hW' hk;have hb:Rows.uptoBulkAll [d0,d1]≤1048576:=of_decide_eq_true hk;simp only [Rows.uptoBulkAll] at hb;obtain ⟨n0,t0⟩:=h0;obtain ⟨v,c0,a0⟩:=open_val _ _ _ t0;have x0:=rdv_struct (hval 0 27 v0 rfl rfl) (tabOk _ _ th27) rfl c0 (show D.agg (valCells v)=.agg (D.cl (.agg (valCells v))) from rfl) rfl;obtain ⟨n1,t1⟩:=h1;obtain ⟨l,c1,a1⟩:=open_dlts t1;have x1:=rdv_one (hval 1 28 v1 rfl rfl) (tabOk _ _ th28) rfl c1;have hda:=dlts_all (d:=d1) a1;have hok:∀ x∈l,okD x:=fun x hx=>⟨hda.2 x hx,by have:=szDs_mem hx;omega⟩;have hszd:∀ x∈l,szV x.value≤1099511627776:=fun x hx=>by have:=szDs_mem hx;omega
  have hszv:szV v≤137438953472:=by have h:szV v≤Rows.uptoBulk d0:=a0.2;omega
  have hds:∀ x∈l,dS x≤1073741824:=fun x hx=>by have:=szDs_mem hx;have:=szN_len x.path;unfold dS;omega
  refine (calls_of_spec (vs:=[v0,v1]) (ds:=[.agg (valCells v),.sl 8 (l.map encD)]) Try.func4 (by kernel_rfl) (by kernel_rfl) (s4 v l hok hszd hszv hds) ⟨rfl,fun i x v hx hv=>?_⟩).mono fun e W' ⟨he,hg⟩=>?_
  · match i,hx,hv with
    | 0,hx,hv=>simp at hx hv;subst hx;subst hv;exact x0
    | 1,hx,hv=>simp at hx hv;subst hx;subst hv;exact x1
    | i+2,hx,hv=>simp at hx
  subst he;exact ⟨_,rfl,post_of_below (pa:=p0++(p1++[])) (pv:=[]) hW' (fun _ _ _=>trodAll_cons_mk (shut_bool Try.underlying4 _) trodAll_mk0) (fun sp hs=>trodAll_stays laid hg (by kernel_rfl) hA (fun x hx=>hs x (by simpa using hx)) (fun x hx=>hW'.lt x (by simpa using hx))) (fun _ _=>rfl) (by simp) hg (ok_one (by kernel_rfl) rfl (okWide_bool_mk Try.underlying4 _))⟩
set_option maxRecDepth 100000 in
theorem lifted (os:Os) (started:os.Started) (H:Type) (enc:TypeId×Value→H) (F:Stop.Interp) :
    ReturnsInHanded {} Try.checked os 4 .any ((Rows.OpenSpec.upto Rows.deltaTwiceSpec).pre6 enc Try.prog Try.f4 Rows.deltaTwiceUptoRow.domain false) (((Rows.OpenSpec.upto Rows.deltaTwiceSpec).at F).post enc Try.prog Try.f4 false true false false):=by
  refine returnsInHanded_of_cond (C:=Try.checked) (s:=Rows.OpenSpec.upto Rows.deltaTwiceSpec) (k:=Rows.uptoSmall) rfl own started (by kernel_rfl) Try.func4
    (OpenSpec.witness (enc:=enc) (C:=Try.checked) (s:=Rows.OpenSpec.upto Rows.deltaTwiceSpec) (k:=Rows.uptoSmall) rfl false ⟨#[],#[.agg #[.int .i64 0,.int .i64 0,.string ⟨#[]⟩,.slice none 0 0,.slice none 0 0],.slice none 0 0],[]⟩ 8 (by kernel_rfl) (by kernel_rfl) (by kernel_rfl)
      (x:=([.agg [.lit (.int .i64 0),.lit (.int .i64 0),.lit (.string []),.nil,.nil],.nil],[],[])) (by kernel_rfl) rfl (by kernel_rfl)) ?_
  intro W base args ds gs before hval hW _ hk _;exact contract H enc W base args ds gs before hval hW hk
theorem j0:(fun (P:Program) (f:FuncId) (fn:Func) (s:ChangeSpec) (c:OpenClaim)=>(c.wf (OpenSpec.ofChange s):Bool)) Try.checked.prog 4 Try.f4 (Rows.OpenSpec.upto Rows.deltaTwiceSpec).bare Rows.deltaTwiceUptoRow=true:=by kernel_rfl
theorem j1:(fun (P:Program) (f:FuncId) (fn:Func) (s:ChangeSpec) (c:OpenClaim)=>(laidOutB P:Bool)) Try.checked.prog 4 Try.f4 (Rows.OpenSpec.upto Rows.deltaTwiceSpec).bare Rows.deltaTwiceUptoRow=true:=by kernel_rfl
theorem j2:(fun (P:Program) (f:FuncId) (fn:Func) (s:ChangeSpec) (c:OpenClaim)=>(mapsRowed P:Bool)) Try.checked.prog 4 Try.f4 (Rows.OpenSpec.upto Rows.deltaTwiceSpec).bare Rows.deltaTwiceUptoRow=true:=by kernel_rfl
theorem j3:(fun (P:Program) (f:FuncId) (fn:Func) (s:ChangeSpec) (c:OpenClaim)=>(fn.params.all (P.readableRec ·):Bool)) Try.checked.prog 4 Try.f4 (Rows.OpenSpec.upto Rows.deltaTwiceSpec).bare Rows.deltaTwiceUptoRow=true:=by kernel_rfl
theorem j4:(fun (P:Program) (f:FuncId) (fn:Func) (s:ChangeSpec) (c:OpenClaim)=>(namedTie P c.named s.vars:Bool)) Try.checked.prog 4 Try.f4 (Rows.OpenSpec.upto Rows.deltaTwiceSpec).bare Rows.deltaTwiceUptoRow=true:=by kernel_rfl
theorem j5:(fun (P:Program) (f:FuncId) (fn:Func) (s:ChangeSpec) (c:OpenClaim)=>((c.stops == []):Bool)) Try.checked.prog 4 Try.f4 (Rows.OpenSpec.upto Rows.deltaTwiceSpec).bare Rows.deltaTwiceUptoRow=true:=by kernel_rfl
theorem j6:(fun (P:Program) (f:FuncId) (fn:Func) (s:ChangeSpec) (c:OpenClaim)=>((P.stops == []):Bool)) Try.checked.prog 4 Try.f4 (Rows.OpenSpec.upto Rows.deltaTwiceSpec).bare Rows.deltaTwiceUptoRow=true:=by kernel_rfl
theorem j7:(fun (P:Program) (f:FuncId) (fn:Func) (s:ChangeSpec) (c:OpenClaim)=>((c.knobs == []):Bool)) Try.checked.prog 4 Try.f4 (Rows.OpenSpec.upto Rows.deltaTwiceSpec).bare Rows.deltaTwiceUptoRow=true:=by kernel_rfl
theorem j8:(fun (P:Program) (f:FuncId) (fn:Func) (s:ChangeSpec) (c:OpenClaim)=>((P.stopKnobs == []):Bool)) Try.checked.prog 4 Try.f4 (Rows.OpenSpec.upto Rows.deltaTwiceSpec).bare Rows.deltaTwiceUptoRow=true:=by kernel_rfl
theorem j9:(fun (P:Program) (f:FuncId) (fn:Func) (s:ChangeSpec) (c:OpenClaim)=>((c.inPlace == P.inPlace f):Bool)) Try.checked.prog 4 Try.f4 (Rows.OpenSpec.upto Rows.deltaTwiceSpec).bare Rows.deltaTwiceUptoRow=true:=by kernel_rfl
theorem j10:(fun (P:Program) (f:FuncId) (fn:Func) (s:ChangeSpec) (c:OpenClaim)=>((c.unfollowed == P.unfollowed f):Bool)) Try.checked.prog 4 Try.f4 (Rows.OpenSpec.upto Rows.deltaTwiceSpec).bare Rows.deltaTwiceUptoRow=true:=by kernel_rfl
theorem j11:(fun (P:Program) (f:FuncId) (fn:Func) (s:ChangeSpec) (c:OpenClaim)=>((c.recurses == P.recurses f):Bool)) Try.checked.prog 4 Try.f4 (Rows.OpenSpec.upto Rows.deltaTwiceSpec).bare Rows.deltaTwiceUptoRow=true:=by kernel_rfl
theorem j12:(fun (P:Program) (f:FuncId) (fn:Func) (s:ChangeSpec) (c:OpenClaim)=>((c.named == P.varsNamed f):Bool)) Try.checked.prog 4 Try.f4 (Rows.OpenSpec.upto Rows.deltaTwiceSpec).bare Rows.deltaTwiceUptoRow=true:=by kernel_rfl
theorem j13:(fun (P:Program) (f:FuncId) (fn:Func) (s:ChangeSpec) (c:OpenClaim)=>((c.maps == (fn.params.toList++s.plain.varTypes P).any (P.mapsRec ·)):Bool)) Try.checked.prog 4 Try.f4 (Rows.OpenSpec.upto Rows.deltaTwiceSpec).bare Rows.deltaTwiceUptoRow=true:=by kernel_rfl
theorem j14:(fun (P:Program) (f:FuncId) (fn:Func) (s:ChangeSpec) (c:OpenClaim)=>((c.ifaces == (fn.params.toList++s.plain.varTypes P).any (P.ifacesRec ·)):Bool)) Try.checked.prog 4 Try.f4 (Rows.OpenSpec.upto Rows.deltaTwiceSpec).bare Rows.deltaTwiceUptoRow=true:=by kernel_rfl
theorem j15:(fun (P:Program) (f:FuncId) (fn:Func) (s:ChangeSpec) (c:OpenClaim)=>((c.mapsOut == P.mapsAmong fn.resultTypes.toList):Bool)) Try.checked.prog 4 Try.f4 (Rows.OpenSpec.upto Rows.deltaTwiceSpec).bare Rows.deltaTwiceUptoRow=true:=by kernel_rfl
theorem j16:(fun (P:Program) (f:FuncId) (fn:Func) (s:ChangeSpec) (c:OpenClaim)=>((c.loops == (fn.params.toList++s.plain.varTypes P).any (P.loopsFrom ·)):Bool)) Try.checked.prog 4 Try.f4 (Rows.OpenSpec.upto Rows.deltaTwiceSpec).bare Rows.deltaTwiceUptoRow=true:=by kernel_rfl
theorem j17:(fun (P:Program) (f:FuncId) (fn:Func) (s:ChangeSpec) (c:OpenClaim)=>((c.wideKeys == (fn.params.toList++s.plain.varTypes P++fn.resultTypes.toList).any (P.wideKeysFrom ·)):Bool)) Try.checked.prog 4 Try.f4 (Rows.OpenSpec.upto Rows.deltaTwiceSpec).bare Rows.deltaTwiceUptoRow=true:=by kernel_rfl
theorem j18:(fun (P:Program) (f:FuncId) (fn:Func) (s:ChangeSpec) (c:OpenClaim)=>(s.vars.all (P.varReadable ·):Bool)) Try.checked.prog 4 Try.f4 (Rows.OpenSpec.upto Rows.deltaTwiceSpec).bare Rows.deltaTwiceUptoRow=true:=by kernel_rfl
theorem j19:(fun (P:Program) (f:FuncId) (fn:Func) (s:ChangeSpec) (c:OpenClaim)=>(fn.resultTypes.all (fun t=>P.readableRec t && decide (t < P.types.size)):Bool)) Try.checked.prog 4 Try.f4 (Rows.OpenSpec.upto Rows.deltaTwiceSpec).bare Rows.deltaTwiceUptoRow=true:=by kernel_rfl
theorem j20:(fun (P:Program) (f:FuncId) (fn:Func) (s:ChangeSpec) (c:OpenClaim)=>((c.ifacesOut == fn.resultTypes.toList.any (P.ifacesRec ·)):Bool)) Try.checked.prog 4 Try.f4 (Rows.OpenSpec.upto Rows.deltaTwiceSpec).bare Rows.deltaTwiceUptoRow=true:=by kernel_rfl
theorem j21:(fun (P:Program) (f:FuncId) (fn:Func) (s:ChangeSpec) (c:OpenClaim)=>((c.loopsOut == fn.resultTypes.toList.any (P.loopsFrom ·)):Bool)) Try.checked.prog 4 Try.f4 (Rows.OpenSpec.upto Rows.deltaTwiceSpec).bare Rows.deltaTwiceUptoRow=true:=by kernel_rfl
theorem j22:(fun (P:Program) (f:FuncId) (fn:Func) (s:ChangeSpec) (c:OpenClaim)=>((c.plainKeys == P.plainKeys):Bool)) Try.checked.prog 4 Try.f4 (Rows.OpenSpec.upto Rows.deltaTwiceSpec).bare Rows.deltaTwiceUptoRow=true:=by kernel_rfl
theorem j23:(fun (P:Program) (f:FuncId) (fn:Func) (s:ChangeSpec) (c:OpenClaim)=>(c.shortTexts.isNone:Bool)) Try.checked.prog 4 Try.f4 (Rows.OpenSpec.upto Rows.deltaTwiceSpec).bare Rows.deltaTwiceUptoRow=true:=by kernel_rfl
theorem j24:(fun (P:Program) (f:FuncId) (fn:Func) (s:ChangeSpec) (c:OpenClaim)=>(P.stopsHeard:Bool)) Try.checked.prog 4 Try.f4 (Rows.OpenSpec.upto Rows.deltaTwiceSpec).bare Rows.deltaTwiceUptoRow=true:=by kernel_rfl
theorem j25:(fun (P:Program) (f:FuncId) (fn:Func) (s:ChangeSpec) (c:OpenClaim)=>(P.mayEnter:Bool)) Try.checked.prog 4 Try.f4 (Rows.OpenSpec.upto Rows.deltaTwiceSpec).bare Rows.deltaTwiceUptoRow=true:=by kernel_rfl
theorem j26:(fun (P:Program) (f:FuncId) (fn:Func) (s:ChangeSpec) (c:OpenClaim)=>((c.lifted == P.liftsFinal):Bool)) Try.checked.prog 4 Try.f4 (Rows.OpenSpec.upto Rows.deltaTwiceSpec).bare Rows.deltaTwiceUptoRow=true:=by kernel_rfl
theorem j27:(fun (P:Program) (f:FuncId) (fn:Func) (s:ChangeSpec) (c:OpenClaim)=>((P.make == some c.make):Bool)) Try.checked.prog 4 Try.f4 (Rows.OpenSpec.upto Rows.deltaTwiceSpec).bare Rows.deltaTwiceUptoRow=true:=by kernel_rfl
theorem j28:(fun (P:Program) (f:FuncId) (fn:Func) (s:ChangeSpec) (c:OpenClaim)=>((c.kinds == (if c.domain.isEmpty then [] else fn.params.toList.map fun t=>match P.underlying t with | some (.int k)=>some k | _=>none)):Bool)) Try.checked.prog 4 Try.f4 (Rows.OpenSpec.upto Rows.deltaTwiceSpec).bare Rows.deltaTwiceUptoRow=true:=by kernel_rfl
theorem j29:(fun (P:Program) (f:FuncId) (fn:Func) (s:ChangeSpec) (c:OpenClaim)=>((c.pinned == c.pinnedBy):Bool)) Try.checked.prog 4 Try.f4 (Rows.OpenSpec.upto Rows.deltaTwiceSpec).bare Rows.deltaTwiceUptoRow=true:=by kernel_rfl
theorem j30:(fun (P:Program) (f:FuncId) (fn:Func) (s:ChangeSpec) (c:OpenClaim)=>((c.veiled == (fn.params.toList++s.plain.varTypes P++fn.resultTypes.toList).any (P.veiledRec ·)):Bool)) Try.checked.prog 4 Try.f4 (Rows.OpenSpec.upto Rows.deltaTwiceSpec).bare Rows.deltaTwiceUptoRow=true:=by kernel_rfl
theorem j31:(fun (P:Program) (f:FuncId) (fn:Func) (s:ChangeSpec) (c:OpenClaim)=>(c.veiledFits P fn.params.toList (fn.params.toList++s.plain.varTypes P++fn.resultTypes.toList):Bool)) Try.checked.prog 4 Try.f4 (Rows.OpenSpec.upto Rows.deltaTwiceSpec).bare Rows.deltaTwiceUptoRow=true:=by kernel_rfl
theorem jand (a b:Bool) (h1:a=true) (h2:b=true):(a && b)=true:=by rw [h1,h2];rfl
theorem closed:joinedFacts Try.checked.prog 4 Try.f4 (Rows.OpenSpec.upto Rows.deltaTwiceSpec).bare Rows.deltaTwiceUptoRow=true:=jand _ _ (jand _ _ (jand _ _ (jand _ _ (jand _ _ (jand _ _ (jand _ _ (jand _ _ (jand _ _ (jand _ _ (jand _ _ (jand _ _ (jand _ _ (jand _ _ (jand _ _ (jand _ _ (jand _ _ (jand _ _ (jand _ _ (jand _ _ (jand _ _ (jand _ _ (jand _ _ (jand _ _ (jand _ _ (jand _ _ (jand _ _ (jand _ _ (jand _ _ (jand _ _ (jand _ _ j0 j1) j2) j3) j4) j5) j6) j7) j8) j9) j10) j11) j12) j13) j14) j15) j16) j17) j18) j19) j20) j21) j22) j23) j24) j25) j26) j27) j28) j29) j30) j31
theorem over:Rows.deltaTwiceUptoRow.holds Try.pinned (Rows.OpenSpec.upto Rows.deltaTwiceSpec):=
 OpenClaim.holds_of_cond 4 Try.f4 rfl rfl rfl rfl rfl rfl rfl ⟨rfl,rfl,rfl,rfl,rfl⟩ rfl rfl rfl rfl rfl (by kernel_rfl) Try.func4 closed
  (of_decide_eq_true (by kernel_rfl)) (by unfold Func.isWrapper;first | (rw [if_pos (by decide +kernel)];kernel_rfl) | (rw [if_neg (by decide +kernel)];exact ⟨rfl,rfl⟩))
  (fun os started H enc _ F=>lifted os started H enc F)
end Go.Proofs.Ytpkcbdhjnnnkbaa.lawDeltaTwice
namespace Go.Proofs.Ytpkcbdhjnnnkbaa
theorem deltaTwice_upto_holds:Rows.DeltaTwiceUptoSaid:=lawDeltaTwice.over
end Go.Proofs.Ytpkcbdhjnnnkbaa
