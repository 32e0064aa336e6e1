/- DeltaCodes: called with any changes and any bytes that hold together at most 1048576 values and letters, the law answers true, and both read afterwards as they read before. -/
import Derived.Test.YtpkcbdhjnnnkbaaGreatMDeltaCodes5
import Derived.Test.YtpkcbdhjnnnkbaaGreatMDeltaCodes4
set_option linter.unusedSimpArgs false
set_option linter.unusedVariables false
set_option maxHeartbeats 1000000
set_option maxRecDepth 10000
namespace Go.Proofs.YtpkcbdhjnnnkbaaGreat.Abs
open Go
theorem pow7 (i:Nat):2 ^ (7 * (i+1))=128 * 2 ^ (7 * i):=by
 rw [show 7 * (i+1)=7 * i+7 by omega,Nat.pow_add,Nat.mul_comm]
theorem gR_grp (r:List UInt8):∀ (f:Nat) (b:List UInt8) (i u m:Nat),f=10 - i→b.drop i=grp m++r→m * 2 ^ (7 * i) < 18446744073709551616→(0 < i→0 < m)→gR f b i u=some (u+m * 2 ^ (7 * i),i+(grp m).length)
 | 0,b,i,u,m,hf,hb,hm,h0=>by
  have h1:2 ^ (7 * 10)≤2 ^ (7 * i):=Nat.pow_le_pow_right (by decide) (by omega);have h2:=h0 (by omega);have h3:2 ^ (7 * i)≤m * 2 ^ (7 * i):=Nat.le_mul_of_pos_left _ h2;omega
 | f+1,b,i,u,m,hf,hb,hm,h0=>by
  have hi:i < 10:=by omega
  by_cases hl:m < 128
  ·rw [grp_lt hl] at hb ⊢;have hg:b[i]?=some (UInt8.ofNat m):=by
    have:=congrArg (fun l=>l[0]?) hb;simpa [List.getElem?_drop] using this
   have hc:(UInt8.ofNat m).toNat=m:=by simp;omega
   simp only [gR,hg,hc];rw [if_neg,if_pos hl,Nat.mod_eq_of_lt hl]
   ·rfl
   ·rintro (⟨h9,h1⟩ | ⟨hp,hz⟩)
    ·subst h9;omega
    ·have:=h0 hp;omega
  ·rw [grp_ge hl] at hb ⊢;have hg:b[i]?=some (UInt8.ofNat (m % 128+128)):=by
    have:=congrArg (fun l=>l[0]?) hb;simpa [List.getElem?_drop] using this
   have hc:(UInt8.ofNat (m % 128+128)).toNat=m % 128+128:=by simp;omega
   have hd:b.drop (i+1)=grp (m / 128)++r:=by
    have:=congrArg (List.drop 1) hb;simpa [List.drop_drop] using this
   have hdm:=Nat.div_add_mod m 128;have hs:m % 128 * 2 ^ (7 * i)+m / 128 * 2 ^ (7 * (i+1))=m * 2 ^ (7 * i):=by
    rw [pow7,← Nat.mul_assoc,← Nat.add_mul];congr 1;omega
   have ih:=gR_grp r f b (i+1) (u+(m % 128+128) % 128 * 2 ^ (7 * i)) (m / 128) (by omega) hd (by omega) (fun _=>by omega);simp only [gR,hg,hc];rw [if_neg,if_neg (by omega),ih]
   ·have:(m % 128+128) % 128=m % 128:=by omega
    rw [this,Nat.add_assoc,hs,List.length_cons];congr 2;omega
   ·rintro (⟨h9,h1⟩ | ⟨hp,hz⟩)
    ·subst h9;omega
    ·omega
theorem rdG_grp {m:Nat} (h:m < 18446744073709551616) (r:List UInt8):rdG (grp m++r)=some (m,(grp m).length):=by
 have:=gR_grp r 10 (grp m++r) 0 0 m rfl rfl (by simpa using h) (by omega);simpa [rdG] using this
theorem gP_grp {m:Nat} (h:m < 18446744073709551616) (r:List UInt8):gP (grp m++r,false)=(m,(grp m).length):=gP_ok rfl (rdG_grp h r)
theorem grp_pos (m:Nat):0 < (grp m).length:=by
 by_cases h:m < 128
 ·rw [grp_lt h];simp
 ·rw [grp_ge h];simp
theorem take_grp (m:Nat) (r:List UInt8):takeS (grp m++r,false) (grp m).length true=(true,(r,false)):=by
 have:=grp_pos m;rw [takeS_ok (by rintro (h | h | h) <;> first | omega | cases h)];simp
theorem u64_nat {n:Int} (h1:0≤n) (h2:n≤4611686018427387904):(u64 n:Int)=n:=by unfold u64;omega
theorem cnt_code {n most:Int} (h1:0≤n) (h2:n≤4611686018427387904) (h3:n≤most) (r:List UInt8):cntS (grp (u64 n)++r,false) most=(n,(r,false)):=by
 have hu:=u64_nat h1 h2;have hr:rightS (u64 n) most=true:=by simp only [rightS,hu,wrap_i64 (m:=n) (by omega) (by omega)];simp;omega
 unfold cntS;rw [gP_grp (u64_lt n)];simp only [hr,take_grp,if_true,hu];rw [wrap_i64 (by omega) (by omega)]
theorem zag_zig {x:Int} (h1:-9223372036854775808≤x) (h2:x≤9223372036854775807):zagI (zigN x)=x:=by
 unfold zagI zigN u64;split <;> split <;> omega
theorem zig_lt2 (x:Int):zigN x < 18446744073709551616:=by unfold zigN;split <;> exact u64_lt _
theorem int_code {x:Int} (h1:-9223372036854775808≤x) (h2:x≤9223372036854775807) (r:List UInt8):intS (grp (zigN x)++r,false)=(x,(r,false)):=by
 unfold intS;rw [gP_grp (zig_lt2 x)];simp only [take_grp,if_true,zag_zig h1 h2]
theorem txt_code {t:Str} {most:Int} (h1:(t.length:Int)≤most) (h2:most≤4294967296) (r:List UInt8) (hr:(txtC t++r).length≤4611686018427387904):txtS (txtC t++r,false) most=(t,(r,false)):=by
 have hu:=u64_nat (n:=(t.length:Int)) (by omega) (by omega);have hu2:u64 (t.length:Int)=t.length:=by omega
 have hg:gP (txtC t++r,false)=(t.length,(grp (u64 t.length)).length):=by
  rw [txtC,List.append_assoc,gP_grp (u64_lt _),hu2]
 have hp:=grp_pos (u64 t.length);have hgl:=grp_l t.length;simp only [txtC,List.length_append] at hr;have hb:txtBad (txtC t++r,false) most=false:=by
  unfold txtBad;rw [hg];simp only [leftS,txtC,List.length_append];rw [if_neg (by decide)];rw [wrap_i64 (m:=((t.length:Nat):Int)) (by omega) (by omega)];rw [wrap_i64 (by omega) (by omega)];simp only [Bool.or_eq_false_iff,decide_eq_false_iff_not,beq_eq_false_iff_ne];refine ⟨⟨⟨?_,?_⟩,?_⟩,?_⟩ <;> omega
 rw [txtS_ok hb,hg];simp only [txtC,List.append_assoc];have e1:(grp (u64 t.length)++(t++r)).take ((grp (u64 t.length)).length+t.length)=grp (u64 t.length)++t:=by
  rw [← List.append_assoc,← List.length_append,List.take_left]
 have e2:(grp (u64 t.length)++(t++r)).drop ((grp (u64 t.length)).length+t.length)=r:=by
  rw [← List.append_assoc,← List.length_append,List.drop_left]
 rw [e1,e2,List.drop_left]
theorem byte_code {k:Int} (h1:0≤k) (h2:k≤255) (r:List UInt8):rdByte (b8 k :: r,false)=(k,(r,false)):=by
 have h:((b8 k).toNat:Int)=k:=by rw [← b8_wrap,wrap_u8];omega
 rw [rdByte_ok rfl (by simp)];simp [h]
theorem name_len {s:Str} (h:nameV s=true):s.length≤32:=by simp only [nameV,decide_eq_true_eq] at h;exact h.2.1
theorem rdIs_code {rd:SB→Val×SB} {doc:Bool} {r:List UInt8}:∀ (xs:List Val) (ns:List Str) (ys:List Val) (ms:List Str),(∀ x∈xs,∀ r:List UInt8,(codV x++r).length≤4611686018427387904→rd (codV x++r,false)=(x,(r,false)))→(doc=true→ns.length=xs.length)→ns.all nameV=true→(codVs doc xs ns++r).length≤4611686018427387904→
    rdIs rd doc xs.length (codVs doc xs ns++r,false) ys ms=(ys++xs,if doc=true then ms++ns else ms,(r,false))
  | [],ns,ys,ms,_,hn,_,_=>by
    cases doc with
    | false=>simp [rdIs,codVs]
    | true=>have:=List.length_eq_zero_iff.1 (hn rfl);subst this;simp [rdIs,codVs]
  | x :: xs,ns,ys,ms,hx,hn,ha,hl=>by
    cases hd:doc with
    | false=>
      subst hd;simp only [codVs,List.append_assoc,List.nil_append,if_neg (show ¬ (false=true) by decide)] at hl ⊢;rw [List.length_cons,rdIs_arr (by decide) Bool.false_ne_true,hx x (by simp) _ hl];have hl2:(codVs false xs ns.tail++r).length≤4611686018427387904:=by rw [List.length_append] at hl;omega
      have ha2:ns.tail.all nameV=true:=List.all_eq_true.2 fun y hy=>List.all_eq_true.1 ha y (List.mem_of_mem_tail hy);have ih:=rdIs_code (rd:=rd) (doc:=false) (r:=r) xs ns.tail (ys++[x]) ms (fun y hy=>hx y (by simp [hy])) (fun h=>by cases h) ha2 hl2;rw [ih];simp
    | true=>
      subst hd;cases ns with
      | nil=>have:=hn rfl;simp at this
      | cons n ns=>
        simp only [List.all_cons,Bool.and_eq_true] at ha;simp only [codVs,List.headD_cons,List.tail_cons,List.append_assoc,if_true] at hl ⊢;have hl1:(codV x++(codVs true xs ns++r)).length≤4611686018427387904:=by rw [List.length_append] at hl;omega
        have hl2:(codVs true xs ns++r).length≤4611686018427387904:=by rw [List.length_append] at hl1;omega
        rw [List.length_cons,rdIs_doc rfl Bool.false_ne_true,txt_code (by have:=name_len ha.1;omega) (by decide) _ hl,hx x (by simp) _ hl1];have ih:=rdIs_code (rd:=rd) (doc:=true) (r:=r) xs ns (ys++[x]) (ms++[n]) (fun y hy=>hx y (by simp [hy])) (fun _=>by have:=hn rfl;simpa using this) ha.2 hl2;rw [ih];simp
theorem depth_get {xs:List Val}:∀ x∈xs,depthV x≤depthsV xs:=by
 induction xs with
 | nil=>simp
 | cons y xs ih=>
  intro x hx;simp only [depthsV];rcases List.mem_cons.1 hx with rfl | hx
  ·exact Nat.le_max_left _ _
  ·exact Nat.le_trans (ih x hx) (Nat.le_max_right _ _)
theorem sizes_get {xs:List Val}:∀ x∈xs,sizeV x≤sizesV xs:=by
 induction xs with
 | nil=>simp
 | cons y xs ih=>
  intro x hx;simp only [sizesV];rcases List.mem_cons.1 hx with rfl | hx
  ·omega
  ·have:=ih x hx;omega
theorem size_pos (v:Val):1≤sizeV v:=by
 obtain ⟨k,i,t,xs,ns⟩:=v;simp only [sizeV];repeat' split
 all_goals omega
theorem sizes_len:∀ xs:List Val,xs.length≤sizesV xs
 | []=>by simp
 | x :: xs=>by have:=sizes_len xs;have:=size_pos x;simp only [sizesV,List.length_cons];omega
theorem rdV_code:∀ (d:Nat) (v:Val) (r:List UInt8),mayV v=true→rngV v→depthV v≤d→sizeV v≤4096→(codV v++r).length≤4611686018427387904→rdV d (codV v++r,false)=(v,(r,false))
 | 0,.mk k i t xs ns,r,_,_,hd,_,_=>by simp only [depthV] at hd;omega
 | d+1,.mk k i t xs ns,r,hm,hg,hd,hs,hl=>by
  have hm0:=hm;simp only [mayV,Bool.and_eq_true] at hm;obtain ⟨⟨hxs,hns⟩,hk⟩:=hm;simp only [depthV] at hd;by_cases h1:k=1
  ·simp only [kindOk,if_pos h1,Bool.and_eq_true,decide_eq_true_eq] at hk;obtain ⟨⟨⟨rfl,rfl⟩,h3⟩,h4⟩:=hk;obtain rfl:=List.length_eq_zero_iff.1 h3;obtain rfl:=List.length_eq_zero_iff.1 h4;simp only [codV,if_pos h1,List.cons_append,List.nil_append,rdV];rw [byte_code (by omega) (by omega)];simp only [if_pos h1]
  by_cases h2:k=2
  ·simp only [kindOk,if_neg h1,if_pos h2,Bool.and_eq_true,decide_eq_true_eq] at hk;obtain ⟨⟨⟨⟨hi0,hi1⟩,rfl⟩,h3⟩,h4⟩:=hk;obtain rfl:=List.length_eq_zero_iff.1 h3;obtain rfl:=List.length_eq_zero_iff.1 h4;simp only [codV,if_neg h1,if_pos h2,List.cons_append,List.nil_append,rdV];rw [byte_code (by omega) (by omega)];simp only [if_neg h1,if_pos h2];rw [byte_code (by omega) (by omega)]
  by_cases h3:k=3
  ·simp only [kindOk,if_neg h1,if_neg h2,if_pos h3,Bool.and_eq_true,decide_eq_true_eq] at hk;obtain ⟨⟨rfl,h5⟩,h4⟩:=hk;obtain rfl:=List.length_eq_zero_iff.1 h5;obtain rfl:=List.length_eq_zero_iff.1 h4;simp only [codV,if_neg h1,if_neg h2,if_pos h3,List.cons_append,rdV];rw [byte_code (by omega) (by omega)];simp only [if_neg h1,if_neg h2,if_pos h3];rw [int_code hg.1.1 hg.1.2]
  by_cases h4:k=4∨k=5
  ·simp only [kindOk,if_neg h1,if_neg h2,if_neg h3,if_pos h4,Bool.and_eq_true,decide_eq_true_eq] at hk;obtain ⟨⟨rfl,h5⟩,h6⟩:=hk;obtain rfl:=List.length_eq_zero_iff.1 h5;obtain rfl:=List.length_eq_zero_iff.1 h6;simp only [codV,if_neg h1,if_neg h2,if_neg h3,if_pos h4,List.cons_append,List.length_cons] at hl;simp only [codV,if_neg h1,if_neg h2,if_neg h3,if_pos h4,List.cons_append,rdV];simp only [sizeV,if_neg h1,if_neg h2,if_neg h3,if_pos h4,textN] at hs;rw [byte_code (by omega) (by omega)];simp only [if_neg h1,if_neg h2,if_neg h3,if_pos h4];rw [txt_code (by omega) (by decide) _ (by omega)]
  have h67:=may67 hm0 h1 h2 h3 h4;have hi:i=0∧t=[]∧(decide (k=7)=true→ns.length=xs.length)∧(¬ k=7→ns=[]):=by
   by_cases h6:k=6
   ·simp only [kindOk,if_neg h1,if_neg h2,if_neg h3,if_neg h4,if_pos h6,Bool.and_eq_true,decide_eq_true_eq] at hk;exact ⟨hk.1.1,hk.1.2,fun h=>by simp at h;omega,fun _=>List.length_eq_zero_iff.1 hk.2⟩
   ·have h7:k=7:=h67.resolve_left h6;simp only [kindOk,if_neg h1,if_neg h2,if_neg h3,if_neg h4,if_neg h6,if_pos h7,Bool.and_eq_true,decide_eq_true_eq] at hk;exact ⟨hk.1.1.1,hk.1.1.2,fun _=>hk.1.2,fun h=>absurd h7 h⟩
  obtain ⟨rfl,rfl,hn,hn0⟩:=hi;simp only [sizeV,if_neg h1,if_neg h2,if_neg h3,if_neg h4] at hs;have hsl:=sizes_len xs;simp only [codV,if_neg h1,if_neg h2,if_neg h3,if_neg h4,List.cons_append,List.length_cons,List.append_assoc] at hl;simp only [codV,if_neg h1,if_neg h2,if_neg h3,if_neg h4,List.cons_append,rdV,List.append_assoc];rw [byte_code (by omega) (by omega)];simp only [if_neg h1,if_neg h2,if_neg h3,if_neg h4,if_pos h67];rw [cnt_code (by omega) (by omega) (by omega)];have hlx:(codVs (decide (k=7)) xs ns++r).length≤4611686018427387904:=by rw [List.length_append] at hl;omega
  have hI:=rdIs_code (rd:=rdV d) (doc:=decide (k=7)) (r:=r) xs ns [] [] (fun x hx r' hr'=>rdV_code d x r' (List.all_eq_true.1 (maysV_all xs ▸ hxs) x hx) (rngVs_mem hg.2 x hx) (by have:=depth_get x hx;omega) (by have:=sizes_get x hx;omega) hr') hn hns hlx;simp only [Int.toNat_natCast];rw [hI];by_cases h7:k=7
  ·simp [h7]
  ·simp [h7,hn0 h7]
theorem rdAll_code {v:Val} {r:List UInt8} (h:checkV v=0) (hg:rngV v) (hl:(codV v++r).length≤4611686018427387904):rdAll (codV v++r,false)=(v,(r,false)):=by
 have hd:depthV v≤8:=by
  unfold checkV at h;split at h
  ·cases h
  ·split at h
   ·cases h
   ·omega
 have e:=rdV_code 8 v r (check_may h) hg hd (check_size h) hl;rw [rdAll_ok (by rw [e];rintro (h1 | h1);cases h1;exact h1 h),e]
theorem none_V0 {v:Val} (h:noneV v=true):v=.mk 0 0 [] [] []:=by
 obtain ⟨k,i,t,xs,ns⟩:=v;obtain ⟨h1,h2,h3,h4,h5⟩:=of_decide_eq_true h;simp only [Val.kind,Val.int,Val.text,Val.items,Val.names] at h1 h2 h3 h4 h5;subst h1 h2 h3 h4 h5;rfl
theorem rdTs_code {r:List UInt8}:∀ (p ms:List Str),p.all nameV=true→(codP p++r).length≤4611686018427387904→rdTs p.length (codP p++r,false) ms=(ms++p,(r,false))
 | [],ms,_,_=>by simp [rdTs,codP]
 | s :: p,ms,h,hl=>by
  simp only [List.all_cons,Bool.and_eq_true] at h;have hc:codP (s :: p)=txtC s++codP p:=by simp [codP]
  rw [hc,List.append_assoc] at hl ⊢;have hl2:(codP p++r).length≤4611686018427387904:=by rw [List.length_append] at hl;omega
  rw [List.length_cons,rdTs,txt_code (by have:=name_len h.1;omega) (by decide) _ hl,rdTs_code p _ h.2 hl2];simp
theorem rdDl_code {d:Dlt} {r:List UInt8} (hm:mayD d=true) (hok:okD d) (hl:(codD d++r).length≤4611686018427387904):rdDl (codD d++r,false)=(d,(r,false)):=by
 obtain ⟨hp,hp8,hv,hn⟩:=mayD_parts hm;obtain ⟨k,p,v,n⟩:=d;simp only at hp hp8 hv hn;have hk:k=1∨k=2∨k=3:=by
  simp only [mayD,Bool.and_eq_true] at hm;have:=hm.2;by_cases h1:k=1
  ·exact .inl h1
  by_cases h2:k=2
  ·exact .inr (.inl h2)
  by_cases h3:k=3
  ·exact .inr (.inr h3)
  simp [h1,h2,h3] at this
 have hl0:=hl;simp only [codD,codD1,List.take_length,List.cons_append,List.append_assoc,List.length_cons] at hl ⊢;have hl1:(codP p++(codDv ⟨k,p,v,n⟩++r)).length≤4611686018427387904:=by rw [List.length_append] at hl;omega
 have hl2:(codDv ⟨k,p,v,n⟩++r).length≤4611686018427387904:=by rw [List.length_append] at hl1;omega
 unfold rdDl;rw [byte_code (by omega) (by omega)];simp only;rw [cnt_code (by omega) (by omega) (by omega)];simp only [Int.toNat_natCast];rw [rdTs_code p [] hp hl1];simp only [List.nil_append];have key:rdD3 rdAll k p (codDv ⟨k,p,v,n⟩++r,false)=(⟨k,p,v,n⟩,(r,false)):=by
  simp only [mayD,Bool.and_eq_true] at hm;have h2:=hm.2;unfold rdD3;rcases hk with rfl | rfl | rfl
  ·simp only [if_true,Bool.and_eq_true,decide_eq_true_eq] at h2;obtain ⟨hc,rfl⟩:=h2;simp only [codDv,if_true] at hl2 ⊢;rw [rdAll_code hc hok.1 hl2]
  ·simp at h2;obtain ⟨hc,rfl⟩:=h2;rw [none_V0 hc];simp [codDv]
  ·simp at h2;obtain ⟨⟨hc,h0⟩,h9⟩:=h2;rw [none_V0 hc];simp only [codDv,if_neg (show ¬ (3:Int)=1 by decide),if_true];rw [cnt_code h0 (by omega) (by omega)]
 rw [key,spoil_yes hm]
theorem rdDls_code {r:List UInt8}:∀ (l ms:List Dlt),(∀ d∈l,mayD d=true)→(∀ d∈l,okD d)→(l.flatMap codD++r).length≤4611686018427387904→rdDls l.length (l.flatMap codD++r,false) ms=(ms++l,(r,false))
 | [],ms,_,_,_=>by simp [rdDls]
 | d :: l,ms,hm,hok,hl=>by
  rw [List.flatMap_cons,List.append_assoc] at hl ⊢;have hl2:(l.flatMap codD++r).length≤4611686018427387904:=by rw [List.length_append] at hl;omega
  rw [List.length_cons,rdDls,rdDl_code (hm d (by simp)) (hok d (by simp)) hl];simp only [if_neg Bool.false_ne_true];rw [rdDls_code l _ (fun x hx=>hm x (by simp [hx])) (fun x hx=>hok x (by simp [hx])) hl2];simp
theorem rdDsP_code {l:List Dlt} {r:List UInt8} (hc:checkD l=0) (hok:∀ d∈l,okD d) (hl:(codDs l++r).length≤4611686018427387904):rdDsP (codDs l++r,false)=(l,(r,false)):=by
 have hn:=checkD_len hc;rw [codDs,List.append_assoc] at hl ⊢;have hl2:(l.flatMap codD++r).length≤4611686018427387904:=by rw [List.length_append] at hl;omega
 unfold rdDsP;rw [cnt_code (by omega) (by omega) (by omega)];simp only [Int.toNat_natCast];rw [rdDls_code l [] (checkD_all hc) hok hl2,rdDq_ok (by simp)];simp
def vOps2 (P:Program) (Θ:Tab) (ops:Array Oper) (K:St→Prop):List Oper→St→Prop
 | [],s=>K s
 | op :: r,s=>match op.guard with
  | none=>vOp P Θ op.op s fun v o' nk'=>vOps2 P Θ ops K r { sl:=pt s.sl op.dst v,o:=o',nk:=nk' }
  | some (j,want)=>GC (gsl ops s j) want true∧vOp P Θ op.op s fun v o' nk'=>vOps2 P Θ ops K r { sl:=pt s.sl op.dst v,o:=o',nk:=nk' }
section
variable {P:Program} {Θ:Tab} {n k0:Nat} {Q:Exit→St→Prop}
theorem vOps2_sound {E:Ent} (hΘ:TabOk P Θ) {ops:Array Oper} {K:St→Prop} {Q:Exit→Act→World→Prop} (hq:∀ s a w,K s→Rel E s a w→Q .normal a w) :
    ∀ (l:List Oper) (s:St) (a:Act) (w:World),(l.all fun o=>dstOk E.n o.dst)=true→Rel E s a w→vOps2 P Θ ops K l s→wpList P ops Q l a w
  | [],s,a,w,_,hr,h=>hq s a w h hr
  | o :: r,s,a,w,hd,hr,h=>by
    simp only [List.all_cons,Bool.and_eq_true] at hd;refine wpList_step fun K' hK'=>?_;unfold vOps2 at h;split at h
    · rename_i hg;simp only [Region.wanted,hg,if_true];refine op_step hΘ hr hd.1 h ?_;intro v o' nk' a' w' h1 h2;exact hK' a' w' (vOps2_sound hΘ hq r _ a' w' hd.2 h2 h1)
    · rename_i j want hg;have hy:=guard_yield hr h.1;simp only [Region.wanted,hg,hy,if_true];refine op_step hΘ hr hd.1 h.2 ?_;intro v o' nk' a' w' h1 h2;exact hK' a' w' (vOps2_sound hΘ hq r _ a' w' hd.2 h2 h1)
theorem WP.reg2 (hΘ:TabOk P Θ) {s:St} {id:Nat} {l:List Oper} (hd:(l.all fun o=>dstOk n o.dst)=true) (h:vOps2 P Θ l.toArray (Q .normal) l s):WP P n k0 (.region id l.toArray false) s Q:=by
 intro E a w h1 h2 h3;refine wp_region_list ?_;exact vOps2_sound hΘ (fun s a w hk hr=>⟨s,hr,hk⟩) l s a w (by rw [h1];exact hd) h3 (by simpa using h)
end
section
variable {P:Program} {Θ:Tab} {ops:Array Oper} {K:St→Prop} {r:List Oper} {sl:Nat→SV} {d ty j nk:Nat} {o:Nat→Option AO} {op:Op} {pos:String} {af:Array Edge} {want:Bool}
theorem v_step (h:vOp P Θ op ⟨sl,o,nk⟩ fun v o' nk'=>vOps2 P Θ ops K r ⟨upd sl d v,o',nk'⟩) :
 vOps2 P Θ ops K ({ dst:=some d,op:=op,type:=ty,pos:=pos,after:=af,guard:=none } :: r) ⟨sl,o,nk⟩:=h
theorem v_stepT (hb:GC (gsl ops ⟨sl,o,nk⟩ j) want true) (h:vOp P Θ op ⟨sl,o,nk⟩ fun v o' nk'=>vOps2 P Θ ops K r ⟨upd sl d v,o',nk'⟩) :
 vOps2 P Θ ops K ({ dst:=some d,op:=op,type:=ty,pos:=pos,after:=af,guard:=some (j,want) } :: r) ⟨sl,o,nk⟩:=⟨hb,h⟩
theorem v_nil {s:St} (h:K s):vOps2 P Θ ops K [] s:=h
end
theorem g_mk0 {P:Program} {Θ:Tab} {K:SV→(Nat→Option AO)→Nat→Prop} {sl:Nat→SV} {o:Nat→Option AO} {nk t e:Nat} {x y:Operand} {i j:TI} {z:D} {m:Nat} (hl:ev sl x=.d (.int .i64 0)) (hc:ev sl y=.d (.int .i64 (m:Int))) (hi:Θ t=some i) (hk:i.k=.slice e) (hj:Θ e=some j) (hz:zD j=some z) (hw:z.width=j.sz) (hpos:0 < j.sz) (hs:m * j.sz≤16777216) (hb:j.bys * m≤281474976710656)
    (h:∀ o1,o1 nk=some (.row e j.sz [])→(∀ t,t≠nk→o1 t=o t)→K (.row nk) o1 (nk+1)):vOp P Θ (.makeSlice t x y) ⟨sl,o,nk⟩ K:=by
  refine .inr (.inr ⟨(.row nk,[(nk,some (.row e j.sz []))],nk+1),nW_of0 ?_,h _ (upd_same _ _ _) fun u hu=>upd_ne _ _ hu⟩);have h0:natV (.d (.int .i64 0))=some 0:=rfl;have hmm:m≤m * j.sz:=Nat.le_mul_of_pos_right _ hpos;have h1:natV (.d (.int .i64 (m:Int)))=some m:=by simp [natV];omega
  simp only [nW0,hi,hk,hj,hz,hl,hc,h0,h1];rw [if_pos ⟨Nat.zero_le _,hs,hb,hpos,hw⟩];rfl
theorem bb_app (b c:Str):b.map encB++bytesD c=bytesD (b++c):=by rw [bytesD_append];rfl
theorem s38c {l:List Dlt} (hc:checkD l=0) (hok:∀ d∈l,okD d):MSpec Tryz.prog 38 (fun k=>[.loc k 0]) (srcS (codDs l,false)) (srcS ([],false)) (.d (.sl 8 (l.map encD))):=by
 have hl:=codDs_len hc;have h:=s38 (codDs l,false) (by simp only;omega);have hr:=rdDsP_code (r:=[]) hc hok (by simp;omega);rw [List.append_nil] at hr;rw [hr] at h;exact h
theorem mk_len {n:Nat} (h:n≤1048576):SV.d (.int .i64 (IntKind.i64.wrap ((n:Int)+9)))=SV.d (.int .i64 ((n+9:Nat):Int)):=by
 rw [wrap_i64 (by omega) (by omega)];simp
theorem s34n (l:List Dlt) (ys:List D) (hc:¬ checkD l=0) (hok:l.length≤64→∀ d∈l,okD d) (hyl:ys.length≤35184372088832):DSpec Tryz.prog 34 [.d (.sl 1 ys),.d (.sl 8 (l.map encD))] 5 1 (ys):=by
 refine DSpec.of fn34 (by simp) fun o nk=>?_;refine wr (ua (u_nil (wr (um ?_))));refine u_step (g_dcall (s84 ys (by omega)) rfl fun c3 q3 o3 nk3 hd3 hq3 hn3 hk3=>?_);refine u_step (o_assignV (v:=c3) rfl ?_);refine u_nil (WP.seq fun K4 hK4=>?_);refine wr (um ?_);refine u_step (o_pcall (s72 l hok) rfl ?_);refine ub (u_nil ?_);refine wc (fun hc6=>?_) (fun hc6=>?_)
 ·
  simp at hc6;refine wr ?_;refine u_step (o_moveV (v:=c3) rfl ?_);refine u_step (o_assignV (v:=c3) rfl ?_);refine u_nil (WP.ret ?_);refine ddst_ok hd3 ?_ (fun t e=>by have:=hq3 t e;omega) (by omega) (fun t ht=>(hk3 t (by omega)));rfl
 ·
  simp at hc6;exact absurd hc6 hc
theorem fn7:FnOk Tryz.prog 7 55 [4] (bodyOf Tryz.f7):=⟨Tryz.f7,Tryz.func7,by kernel_rfl,by decide,by kernel_rfl,by kernel_rfl⟩
theorem s7n (l:List Dlt) (b:List UInt8) (hok:l.length≤64→∀ d∈l,okD d) (hsz:∀ d∈l,szV d.value≤1099511627776) (hbl:b.length≤1048576) (hc:¬ checkD l=0):PSpec Tryz.prog 7 [.d (.sl 8 (l.map encD)),.d (.sl 1 (b.map encB))] (.d (.bool true)):=by
 refine PSpec.of fn7 (by simp) fun o nk=>?_;refine wr ?_;refine ua ?_;refine u_nil ?_;refine WP.seq fun K2 hK2=>?_;refine wr ?_;refine um ?_;refine u_step (o_pcall (s25 l hsz) rfl ?_);refine u_nil ?_;refine wc (fun hc4=>?_) (fun hc4=>?_) <;> try simp only [Q0,Q1,Q2,Q3,Q4,Q5,Q6,Q7,Q8,ge_iff_le,gt_iff_lt] at hc4
 ·
  refine wr ?_;refine u_step (o_pcall (s27) rfl ?_);refine ua (u_nil (WP.ret ?_));refine ret_ok rfl ?_ (by omega) (fun _ _=>rfl);rfl
 ·
  refine WP.skip ?_;refine hK2 _ ?_;refine wr ?_;refine um ?_;refine un th52 ?_;refine ub ?_;refine u_step (g_mk0 (m:=(b.map encB).length+9) rfl (mk_len (by simpa using hbl)) th52 rfl th5 rfl rfl (by decide) (by simp;omega) (by simp;omega) fun o7 hb7 hk7=>?_);refine um ?_;refine u_step (g_ap rfl rfl th52 rfl th5 rfl rfl (by decide) rfl hb7 (by simp;omega) (by simp;omega) fun o8 hb8 hk8=>?_);refine um ?_;refine u_step (o_pcallF (us:=[.row _,.d _]) hb8 ((s34n l (b.map encB) hc hok (by simp;omega)).frz) rfl (by simp [SV.frz]) fun o9 hk9=>?_);refine ua ?_;refine u_nil ?_;refine WP.seq fun K10 hK10=>?_;refine wr ?_;refine u_step (o_pcall (s27) rfl ?_);refine uN ?_;refine u_nil ?_;refine wc (fun hc12=>?_) (fun hc12=>?_) <;> try simp only [Q0,Q1,Q2,Q3,Q4,Q5,Q6,Q7,Q8,ge_iff_le,gt_iff_lt] at hc12
  ·
   simp at hc12
  ·
   refine WP.skip ?_;refine hK10 _ ?_;refine WP.seq fun K13 hK13=>?_;refine wr ?_;refine um ?_;refine u_step (o_pcall (s31 l hok) rfl ?_);refine ub ?_;refine u_nil ?_;refine wc (fun hc15=>?_) (fun hc15=>?_) <;> try simp only [Q0,Q1,Q2,Q3,Q4,Q5,Q6,Q7,Q8,ge_iff_le,gt_iff_lt] at hc15
   ·
    refine wr (um ?_);refine u_step (o_cv_sb (b:=b) rfl th52 rfl th5 rfl th9 rfl ?_);refine um ?_;refine u_step (o_cv_sb (b:=b) rfl th52 rfl th5 rfl th9 rfl ?_);refine us (ua (u_nil (WP.ret ?_)));refine ret_ok rfl ?_ (by omega) (fun t ht=>(hk9 t (by omega)).trans ((hk8 t (by omega) (by omega)).trans ((hk7 t (by omega)))));simp
   ·
    simp at hc15;exact absurd hc15 hc
theorem s7y (l:List Dlt) (b:List UInt8) (hok:l.length≤64→∀ d∈l,okD d) (hsz:∀ d∈l,szV d.value≤1099511627776) (hbl:b.length≤1048576) (hc:checkD l=0):PSpec Tryz.prog 7 [.d (.sl 8 (l.map encD)),.d (.sl 1 (b.map encB))] (.d (.bool true)):=by
 have hok2:=hok (checkD_len hc);have hX:(b++codDs l).drop (b.map encB).length=codDs l:=by simp
 have hcl:=codDs_len hc;refine PSpec.of fn7 (by simp) fun o nk=>?_;refine wr ?_;refine ua ?_;refine u_nil ?_;refine WP.seq fun K2 hK2=>?_;refine wr ?_;refine um ?_;refine u_step (o_pcall (s25 l hsz) rfl ?_);refine u_nil ?_;refine wc (fun hc4=>?_) (fun hc4=>?_) <;> try simp only [Q0,Q1,Q2,Q3,Q4,Q5,Q6,Q7,Q8,ge_iff_le,gt_iff_lt] at hc4
 ·
  refine wr ?_;refine u_step (o_pcall (s27) rfl ?_);refine ua (u_nil (WP.ret ?_));refine ret_ok rfl ?_ (by omega) (fun _ _=>rfl);rfl
 ·
  refine WP.skip ?_;refine hK2 _ ?_;refine wr ?_;refine um ?_;refine un th52 ?_;refine ub ?_;refine u_step (g_mk0 (m:=(b.map encB).length+9) rfl (mk_len (by simpa using hbl)) th52 rfl th5 rfl rfl (by decide) (by simp;omega) (by simp;omega) fun o7 hb7 hk7=>?_);refine um ?_;refine u_step (g_ap rfl rfl th52 rfl th5 rfl rfl (by decide) rfl hb7 (by simp;omega) (by simp;omega) fun o8 hb8 hk8=>?_);refine um ?_;refine u_step (g_rcallF (us:=[.row _,.d _]) hb8 (s34 l (b.map encB) hc hok2 (by simp;omega)) rfl (by simp only [List.map_cons,List.map_nil,SV.frz,if_true] <;> rfl) fun o9 hb9 hk9=>?_);refine uS ?_;refine u_nil ?_;refine WP.seq fun K10 hK10=>?_;refine wr ?_;refine u_step (o_pcall (s27) rfl ?_);refine uN ?_;refine u_nil ?_;refine wc (fun hc12=>?_) (fun hc12=>?_) <;> try simp only [Q0,Q1,Q2,Q3,Q4,Q5,Q6,Q7,Q8,ge_iff_le,gt_iff_lt] at hc12
  ·
   simp at hc12
  ·
   refine WP.skip ?_;refine hK10 _ ?_;refine WP.seq fun K13 hK13=>?_;refine wr ?_;refine um ?_;refine u_step (o_pcall (s31 l hok) rfl ?_);refine ub ?_;refine u_nil ?_;refine wc (fun hc15=>?_) (fun hc15=>?_) <;> try simp only [Q0,Q1,Q2,Q3,Q4,Q5,Q6,Q7,Q8,ge_iff_le,gt_iff_lt] at hc15
   ·
    simp at hc15;exact absurd hc hc15
   ·
    refine WP.skip (hK13 _ (WP.seq fun K16 hK16=>?_));refine WP.seq fun K17 hK17=>?_;have hR8:=(hb9).trans (congrArg (fun z=>some (AO.row 5 1 z)) (bb_app b (codDs l)));refine WP.dr1 [.q 0 1,.q 0 1,.q 0 1,.q 0 1,.q 0 0,.w 0,.q 1 1,.q 1 1,.q 1 1] [5] ((((nk+1)+1)+1)+1) tabOk (by kernel_rfl) rfl (by kernel_rfl) (by kernel_rfl) ?_;apply Exists.intro;refine e_step2 rfl rfl (o_moveV (v:=.row _) rfl ⟨rfl,rfl,rfl⟩) ?_ ?_;rotate_left;refine e_step2 rfl rfl (o_cv_sr (b:=b++codDs l) rfl hR8 th52 rfl th5 rfl th9 rfl ⟨rfl,rfl,rfl⟩) ?_ ?_;rotate_left;refine e_step2 rfl rfl (o_move rfl ⟨rfl,rfl,rfl⟩) ?_ ?_;rotate_left;refine e_step2 rfl rfl (o_cv_sb (b:=b) rfl th52 rfl th5 rfl th9 rfl ⟨rfl,rfl,rfl⟩) ?_ ?_;rotate_left;refine e_step rfl (o_move rfl ⟨rfl,rfl,rfl⟩) ?_;refine e_w rfl rfl (w_rcall (s35 l hc hok2) rfl ⟨rfl,rfl,rfl⟩) ?_;refine e_step rfl (o_cv_sr (b:=codDs l) rfl (upd_same _ _ _) th52 rfl th5 rfl th9 rfl ⟨rfl,rfl,rfl⟩) ?_;refine e_step rfl (o_bin_str rfl rfl (if_pos (by omega:b.length+(codDs l).length≤9223372036854775807)) ⟨rfl,rfl,rfl⟩) ?_;refine e_step rfl (o_bin_str rfl rfl rfl ⟨rfl,rfl,rfl⟩) ?_;refine e_nil rfl fun o19 ho19=>?_;have hbr0_19:=(ho19 _).trans ((upd_ne _ _ (by omega)).trans hR8);have hbq18_19:=(ho19 _).trans (upd_same _ _ _);have hk19:∀ t,t < nk→o19 t=o9 t:=fun t ht=>(ho19 t).trans (upd_ne _ _ (by omega))
    ·
     refine hK17 _ ?_;refine wc (fun hc20=>?_) (fun hc20=>?_) <;> try simp only [Q0,Q1,Q2,Q3,Q4,Q5,Q6,Q7,Q8,ge_iff_le,gt_iff_lt] at hc20
     ·
      simp at hc20
     ·
      refine WP.skip (hK16 _ ?_);have hF0:∀ t,t < nk→o19 t=o t:=(fun t ht=>(hk19 t (by omega)).trans ((hk9 t (by omega) (by omega)).trans ((hk8 t (by omega) (by omega)).trans ((hk7 t (by omega))))));refine WP.frzL [(0,.d (.sl 8 (l.map encD))),(1,.d (.sl 1 (b.map encB))),(5,.d (.sl 1 (bytesD (b++codDs l))))] nk hbr0_19 (by simp only [List.forall_mem_cons];exact ⟨rfl,rfl,if_pos rfl,by simp⟩) fun o9 hk9 _=>?_;have hF9:∀ t,t < nk→o9 t=o t:=fun t ht=>(hk9 t (by omega) (by omega)).trans (hF0 t ht);refine wr (um (um (un th52 ?_)));refine u_step (o_sl_bL (b:=b++codDs l) (m:=(b.map encB).length) rfl rfl th52 rfl th5 rfl (by simp) ?_);refine u_step (g_ncall (s36 ((b++codDs l).drop (b.map encB).length)) rfl fun o22 hb22 hk22=>?_);rw [hX] at hb22;refine uT (u_nil (WP.seq fun Kv11 hKv11=>?_));refine WP.reg2 tabOk rfl ?_;refine v_step (o_moveV (v:=.loc _ _) rfl ?_);refine v_step (o_pnnil rfl rfl th55 rfl hb22 ?_);refine v_step (o_move rfl ?_);refine v_stepT (GC.tT (rfl)) (o_moveV (v:=.loc _ _) rfl ?_);refine v_stepT (GC.tT (rfl)) (g_mcall (s38c hc hok2) hb22 rfl fun o24 hb24 hk24=>?_);refine v_stepT (GC.tT (rfl)) (o_move rfl ?_);refine v_stepT (GC.tT (rfl)) (o_pcall (s37 l l) rfl ?_);refine v_step (o_pick_T rfl rfl rfl rfl ?_);refine v_step (o_move rfl ?_);refine v_stepT (GC.tT (sameDs_refl l)) (o_moveV (v:=.loc _ _) rfl ?_);refine v_stepT (GC.tT (sameDs_refl l)) (o_scall (s39 ([],false) hb24) rfl ?_);refine v_stepT (GC.tT (sameDs_refl l)) (o_bin_int rfl rfl (by decide) rfl ?_);refine v_step (o_pick_T rfl (sameDs_refl l) rfl rfl ?_);refine v_step (o_assign rfl ?_);refine v_nil ?_;refine hKv11 _ ?_;refine WP.ret ?_;refine ret_ok rfl ?_ (by omega) (fun t ht=>(hk24 t (by omega)).trans ((hk22 t (by omega)).trans ((hF9 t (by omega)))));rfl
    exact o_moveV (v:=.row _) rfl ⟨rfl,rfl,rfl⟩;exact o_cv_sr (b:=b++codDs l) rfl ((upd_ne _ _ (by omega)).trans hR8) th52 rfl th5 rfl th9 rfl ⟨rfl,rfl,rfl⟩;exact o_move rfl ⟨rfl,rfl,rfl⟩;exact o_cv_sb (b:=b) rfl th52 rfl th5 rfl th9 rfl ⟨rfl,rfl,rfl⟩
noncomputable def countN (f:Flt):List Etr→Nat
 | []=>0
 | e :: r=>(if matchV f e=true then 1 else 0)+if endsV f e=true then 0 else countN f r
theorem countN_at {f:Flt} {l:List Etr} {i:Nat} (h:i < l.length):countN f (l.drop i)=(if matchV f (l[i]'h)=true then 1 else 0)+if endsV f (l[i]'h)=true then 0 else countN f (l.drop (i+1)):=by
 rw [List.drop_eq_getElem_cons h,countN]
theorem countN_le (f:Flt):∀ l:List Etr,countN f l≤l.length
 | []=>by simp [countN]
 | e :: l=>by
  have:=countN_le f l;simp only [countN,List.length_cons];split <;> split <;> omega
theorem fn21:FnOk Tryz.prog 21 24 [4] (bodyOf Tryz.f21):=⟨Tryz.f21,Tryz.func21,by kernel_rfl,by decide,by kernel_rfl,by kernel_rfl⟩
theorem s21 (f:Flt) (l:List Etr) (okf:OkF f) (ok:∀ e∈l,OkE e):PSpec Tryz.prog 21 [.d (encF f),.d (.sl 17 (l.map encE))] (.d (.int .i64 (countN f l:Nat))):=by
 refine PSpec.bd fun hbd=>?_;have hx:l.length≤9223372036854775807:=by simpa using hbd.2.1.1
 have hcl:=countN_le f l;refine PSpec.of fn21 (by simp) fun o nk=>?_;refine wr ?_;refine u_step (g_box rfl fun o2 hb2 hk2=>?_);refine ua (u_nil (wr (ua (u_nil (WP.seq fun K4 hK4=>?_)))));refine wr (um (un th34 ?_));refine um (u_nil (WP.block ?_));refine WP.loopL (ι:=Nat×Nat×(Nat→Option AO)×Nat) (fun ⟨i,n,o2,nk2⟩=>⟨al [(2,.loc nk 0),(5,.d (.int .i64 (n:Nat))),(8,.d (.sl 17 (l.map encE))),(9,.d (.int .i64 (l.map encE).length)),(10,.d (.int .i64 i))],o2,nk2⟩) (fun ⟨i,n,o2,nk2⟩=>i≤l.length∧n≤i∧nk < nk2∧n+countN f (l.drop i)=countN f l∧o2 nk=some (.box ([D.str f.coll,.sl 1 (f.path.map .str),.int .i64 f.kinds].map .d))∧∀ t,t < nk→o2 t=o t) (fun ⟨i,n,o2,nk2⟩=>l.length - i) (fun ⟨i,n,o2,nk2⟩ hA=>?_) ⟨0,0,o2,(nk+1)⟩ ?_ ?_
 ·
  obtain ⟨hle,hni,hnk,hcn,hob,hfr⟩:=hA;refine wr ?_;refine ub ?_;refine u_nil ?_;refine WP.seq fun K7 hK7=>?_;refine wc (fun hc8=>?_) (fun hc8=>?_) <;> try simp only [Q0,Q1,Q2,Q3,Q4,Q5,Q6,Q7,Q8,ge_iff_le,gt_iff_lt] at hc8
  ·
   have hm1:(if matchV f l[i]=true then 1 else 0)≤1:=by split <;> omega
   have hst:=countN_at (f:=f) (l:=l) (i:=i) (by omega);refine WP.skip (hK7 _ (WP.seq fun K9 hK9=>?_));refine WP.block (wr ?_)
   refine u_step (o_ia_map rfl rfl th34 rfl th30 rfl (by omega) ?_)
   refine uL th30 ?_;refine u_step (g_alloc th30 rfl fun o11 hb11 hk11=>?_);have hob_11:=(hk11 _ (by omega)).trans hob;refine u_step0 (g_sta rfl rfl th30 rfl hb11 (by simp [valCells]) fun o12 hb12 hk12=>?_);have hob_12:=(hk12 _ (by omega)).trans hob_11;refine u_nil ?_;refine WP.seqJ ⟨al [(2,.loc nk 0),(5,.d (.int .i64 (n+(if matchV f l[i]=true then 1 else 0):Nat))),(7,.loc nk2 0),(8,.d (.sl 17 (l.map encE))),(9,.d (.int .i64 (l.map encE).length)),(10,.d (.int .i64 i))],o12,(nk2+1)⟩ ?_ ?_
   ·
    refine wr ?_;refine ug th24 hob_12 ?_;refine ug th30 hb12 ?_;refine u_step (o_pcall (s17 f l[i] okf (ok _ (List.getElem_mem _))) rfl ?_);refine u_nil ?_;refine wc (fun hc14=>?_) (fun hc14=>?_) <;> try simp only [Q0,Q1,Q2,Q3,Q4,Q5,Q6,Q7,Q8,ge_iff_le,gt_iff_lt] at hc14
    ·
     refine WP.reg tabOk rfl ?_;refine um (ub (ua (u_nil ?_)));refine Le.al ?_;simp only [List.forall_mem_cons];have hl:=hc14;refine ⟨rfl,?_,rfl,rfl,rfl,rfl,by simp⟩
     first | (rw [if_pos hl];exact cnt (by omega)) | (rw [if_neg (by simpa using hl)];rfl)
    ·
     refine WP.skip ?_;refine Le.al ?_;simp only [List.forall_mem_cons];have hl:=hc14;refine ⟨rfl,?_,rfl,rfl,rfl,rfl,by simp⟩
     first | (rw [if_pos hl];exact cnt (by omega)) | (rw [if_neg (by simpa using hl)];rfl)
   ·
    refine wr ?_;refine ug th24 hob_12 ?_;refine ug th30 hb12 ?_;refine u_step (o_pcall (s19 f l[i] okf (ok _ (List.getElem_mem _))) rfl ?_);refine u_nil ?_;refine wc (fun hc16=>?_) (fun hc16=>?_) <;> try simp only [Q0,Q1,Q2,Q3,Q4,Q5,Q6,Q7,Q8,ge_iff_le,gt_iff_lt] at hc16
    ·
     refine WP.exit ?_;refine hK4 _ (wr (um (ua (u_nil (WP.ret ?_)))));refine ret_ok rfl ?_ (by omega) (fun t ht=>(hk12 t (by omega)).trans ((hk11 t (by omega)).trans ((hfr t (by omega)))));have hl:=hc16;rw [← hcn,hst,show (if endsV f l[i]=true then 0 else countN f (l.drop (i+1)))=0 from if_pos hl];rfl
    ·
     refine WP.skip ?_;refine hK9 _ ?_;refine WP.reg tabOk rfl ?_;refine ub ?_;refine um ?_;refine u_nil ?_;have hl:=hc16;refine ⟨⟨i+1,n+(if matchV f l[i]=true then 1 else 0),o12,(nk2+1)⟩,⟨by omega,by split <;> omega,by omega,?_,hob_12,(fun t ht=>(hk12 t (by omega)).trans ((hk11 t (by omega)).trans ((hfr t (by omega)))))⟩,by simp only;omega,?_⟩
     ·rw [← hcn,hst,show (if endsV f l[i]=true then 0 else countN f (l.drop (i+1)))=countN f (l.drop (i+1)) from if_neg (by simpa using hl)];omega
     ·refine Le.al ?_;simp only [List.forall_mem_cons];exact ⟨rfl,rfl,rfl,rfl,cnt (by omega),by simp⟩
  ·
   refine WP.exit ?_;refine hK4 _ (wr (um (ua (u_nil (WP.ret ?_)))));refine ret_ok rfl ?_ (by omega) (fun t ht=>(hfr t (by omega)));have e:l.drop i=[]:=List.drop_eq_nil_of_le (by omega);rw [← hcn,e,countN];rfl
 ·
  exact ⟨by omega,by omega,by omega,by simp,hb2,(fun t ht=>(hk2 t (by omega)))⟩
 ·
  refine Le.al ?_;simp only [List.forall_mem_cons];exact ⟨rfl,rfl,rfl,rfl,rfl,by simp⟩
theorem PSpec.le1 {P:Program} {f:FuncId} {x y:D} {r:SV} (h:PSpec P f [.d y] r) (hl:D.le x y):PSpec P f [.d x] r:=h.le ⟨hl,trivial⟩
theorem PSpec.le2 {P:Program} {f:FuncId} {x y x2 y2:D} {r:SV} (h:PSpec P f [.d y,.d y2] r) (hl:D.le x y) (hl2:D.le x2 y2):PSpec P f [.d x,.d x2] r:=h.le ⟨hl,hl2,trivial⟩
def eA:Etr:=⟨0,6,[99],[],zeroV,zeroV,[],0,0⟩
def eB:Etr:=⟨0,5,[100],[],zeroV,zeroV,[],0,0⟩
def fA:Flt:=⟨[99],[],96⟩
def fB:Flt:=⟨[],[],1⟩
theorem ok_zero:rngV zeroV∧szV zeroV≤1099511627776:=by simp [zeroV,rngV,rngVs,szV,szVs,szN]
theorem okA:OkE eA:=⟨ok_zero.1,ok_zero.2,ok_zero.1,ok_zero.2,fun _ d hd=>by cases hd⟩
theorem okB:OkE eB:=⟨ok_zero.1,ok_zero.2,ok_zero.1,ok_zero.2,fun _ d hd=>by cases hd⟩
theorem okfA:OkF fA:=⟨by decide,by decide⟩
theorem okfB:OkF fB:=⟨by decide,by decide⟩
theorem leA:D.le (.agg [.int .i64 0,.int .i64 6,.str [99],.str [],.int .i64 0,.int .i64 0,.str [],.nil,.nil,.int .i64 0,.int .i64 0,.str [],.nil,.nil,.nil,.int .i64 0,.int .i64 0]) (encE eA):=by simp [encE,eA,valCells,zeroV,Val.kind,Val.int,Val.text,Val.items,Val.names,encVs,D.le,D.les]
theorem leB:D.le (.agg [.int .i64 0,.int .i64 5,.str [100],.str [],.int .i64 0,.int .i64 0,.str [],.nil,.nil,.int .i64 0,.int .i64 0,.str [],.nil,.nil,.nil,.int .i64 0,.int .i64 0]) (encE eB):=by simp [encE,eB,valCells,zeroV,Val.kind,Val.int,Val.text,Val.items,Val.names,encVs,D.le,D.les]
theorem lefA:D.le (.agg [.str [99],.nil,.int .i64 ((ofN [6,5] 0:Nat):Int)]) (encF fA):=by
 show D.le (.agg [.str [99],.nil,.int .i64 96]) (encF fA);simp [encF,fA,D.le,D.les]
theorem lefB:D.le (.agg [.str [],.nil,.int .i64 1]) (encF fB):=by simp [encF,fB,D.le,D.les]
theorem mayE_A:mayE eA=true:=by simp [mayE,eA,namesE,valuesE,hasC,hasT,hasI,hasD,hasS,collV,noneV,zeroV,Val.kind,Val.int,Val.text,Val.items,Val.names]
theorem mayE_B:mayE eB=true:=by simp [mayE,eB,namesE,valuesE,hasC,hasT,hasI,hasD,hasS,collV,noneV,zeroV,Val.kind,Val.int,Val.text,Val.items,Val.names]
theorem mayF_A:mayF fA=true:=by decide
theorem mayF_B:mayF fB=false:=by decide
theorem match_A:matchV fA eA=true:=by
 simp only [matchV,mayE_A,mayF_A];decide
theorem match_B:matchV fA eB=false:=by
 simp only [matchV,mayE_B,mayF_A];decide
theorem ends_A:endsV fA eA=true:=by
 simp only [endsV,mayE_A,mayF_A];decide
theorem ends_B:endsV fA eB=false:=by
 simp only [endsV,mayE_B,mayF_A];decide
theorem count_BAA:countN fA [eB,eA,eA]=1:=by
 simp [countN,match_A,match_B,ends_A,ends_B]
theorem leBAA:D.le (.sl 17 [.agg [.int .i64 0,.int .i64 5,.str [100],.str [],.int .i64 0,.int .i64 0,.str [],.nil,.nil,.int .i64 0,.int .i64 0,.str [],.nil,.nil,.nil,.int .i64 0,.int .i64 0],.agg [.int .i64 0,.int .i64 6,.str [99],.str [],.int .i64 0,.int .i64 0,.str [],.nil,.nil,.int .i64 0,.int .i64 0,.str [],.nil,.nil,.nil,.int .i64 0,.int .i64 0],.agg [.int .i64 0,.int .i64 6,.str [99],.str [],.int .i64 0,.int .i64 0,.str [],.nil,.nil,.int .i64 0,.int .i64 0,.str [],.nil,.nil,.nil,.int .i64 0,.int .i64 0]]) (.sl 17 ([eB,eA,eA].map encE)):=⟨rfl,leB,leA,leA,trivial⟩
theorem okBAA:∀ e∈[eB,eA,eA],OkE e:=by
 intro e he;simp at he;rcases he with rfl | rfl
 ·exact okB
 ·exact okA
theorem fn14:FnOk Tryz.prog 14 52 [0] (bodyOf Tryz.f14):=⟨Tryz.f14,Tryz.func14,by kernel_rfl,by decide,by kernel_rfl,by kernel_rfl⟩
theorem s14:PSpec Tryz.prog 14 [] (.d (.bool true)):=by
 refine PSpec.of fn14 (by simp) fun o nk=>?_;refine wr (ua (u_nil (wr ?_)));refine u_step (o_bs rfl th37 rfl th3 rfl rfl (by decide) rfl (by decide) (by decide) ?_);refine u_step (o_pcall (s23 [6,5]) rfl ?_);refine u_step (o_bu rfl th24 rfl rfl ?_);refine u_step (g_alloc th24 rfl fun o3 hb3 hk3=>?_);refine u_step0 (g_sta rfl rfl th24 rfl hb3 (by first | (simp;done) | (simp [D.leaves,D.width,valCells];done) | decide) fun o4 hb4 hk4=>?_);refine u_nil (wr ?_);refine u_step (o_bu rfl th30 rfl rfl ?_);refine u_step (o_bu rfl th30 rfl rfl ?_);refine u_step (g_alloc th30 rfl fun o6 hb6 hk6=>?_);have hb4_6:=(hk6 _ (by omega)).trans hb4;refine u_step (g_alloc th30 rfl fun o7 hb7 hk7=>?_);have hb4_7:=(hk7 _ (by omega)).trans hb4_6;have hb6_7:=(hk7 _ (by omega)).trans hb6;refine u_step0 (g_sta rfl rfl th30 rfl hb6_7 (by first | (simp;done) | (simp [D.leaves,D.width,valCells];done) | decide) fun o8 hb8 hk8=>?_);have hb4_8:=(hk8 _ (by omega)).trans hb4_7;have hb7_8:=(hk8 _ (by omega)).trans hb7;refine u_step0 (g_sta rfl rfl th30 rfl hb7_8 (by first | (simp;done) | (simp [D.leaves,D.width,valCells];done) | decide) fun o9 hb9 hk9=>?_);have hb4_9:=(hk9 _ (by omega)).trans hb4_8;have hb8_9:=(hk9 _ (by omega)).trans hb8;refine u_nil (wr (ug th24 hb4_9 ?_));refine u_step (o_pcall (PSpec.le1 (s15 fA okfA) lefA) rfl ?_);refine um ?_;apply gT
 ·rfl
 ·intro hg;refine o_bu rfl th24 rfl rfl ⟨rfl,rfl,rfl⟩
 apply gT
 ·rfl
 ·intro hg;try simp only [hg,ct];try simp only [hg,ct,Bt]
  refine o_pcall (PSpec.le1 (s15 fB okfB) lefB) rfl ⟨rfl,rfl,rfl⟩
 apply gT
 ·rfl
 ·intro hg;try simp only [hg,ct];try simp only [hg,ct,Bt]
  exact pN
 refine uA (um ?_);apply gT
 ·rfl
 ·intro hg;exact pg th24 hb4_9
 apply gT
 ·rfl
 ·intro hg;exact pg th30 hb8_9
 apply gT
 ·rfl
 ·intro hg;try simp only [hg,ct];try simp only [hg,ct,Bt]
  refine o_pcall (PSpec.le2 (s17 fA eA okfA okA) lefA leA) rfl ⟨rfl,rfl,rfl⟩
 refine uA (um ?_);apply gT
 ·rfl
 ·intro hg;exact pg th24 hb4_9
 apply gT
 ·rfl
 ·intro hg;exact pg th30 hb9
 apply gT
 ·rfl
 ·intro hg;try simp only [hg,ct];try simp only [hg,ct,Bt]
  refine o_pcall (PSpec.le2 (s17 fA eB okfA okB) lefA leB) rfl ⟨rfl,rfl,rfl⟩
 apply gT
 ·rfl
 ·intro hg;try simp only [hg,ct];try simp only [hg,ct,Bt]
  exact pN
 refine uA (um ?_);apply gT
 ·rfl
 ·intro hg;exact pg th24 hb4_9
 apply gT
 ·rfl
 ·intro hg;exact pg th30 hb8_9
 apply gT
 ·rfl
 ·intro hg;try simp only [hg,ct];try simp only [hg,ct,Bt]
  refine o_pcall (PSpec.le2 (s19 fA eA okfA okA) lefA leA) rfl ⟨rfl,rfl,rfl⟩
 refine uA (um ?_);apply gT
 ·rfl
 ·intro hg;exact pg th24 hb4_9
 apply gT
 ·rfl
 ·intro hg;exact pg th30 hb9
 apply gT
 ·rfl
 ·intro hg;try simp only [hg,ct];try simp only [hg,ct,Bt]
  refine o_pcall (PSpec.le2 (s19 fA eB okfA okB) lefA leB) rfl ⟨rfl,rfl,rfl⟩
 apply gT
 ·rfl
 ·intro hg;try simp only [hg,ct];try simp only [hg,ct,Bt]
  exact pN
 refine uA (um ?_);apply gT
 ·rfl
 ·intro hg;exact pg th24 hb4_9
 apply gT
 ·rfl
 ·intro hg;exact pg th30 hb9
 apply gT
 ·rfl
 ·intro hg;exact pg th30 hb8_9
 apply gT
 ·rfl
 ·intro hg;exact pg th30 hb8_9
 apply gT
 ·rfl
 ·intro hg;try simp only [hg,ct];try simp only [hg,ct,Bt]
  refine o_bs rfl th34 rfl th30 rfl rfl (by decide) rfl (by decide) (by decide) ⟨rfl,rfl,rfl⟩
 apply gT
 ·rfl
 ·intro hg;try simp only [hg,ct];try simp only [hg,ct,Bt]
  refine o_pcall (PSpec.le2 (s21 fA [eB,eA,eA] okfA okBAA) lefA leBAA) rfl ⟨rfl,rfl,rfl⟩
 apply gT
 ·rfl
 ·intro hg;try simp only [hg,ct];try simp only [hg,ct,Bt]
  exact pb
 refine uA (um ?_);apply gT
 ·rfl
 ·intro hg;refine o_bs rfl th37 rfl th3 rfl rfl (by decide) rfl (by decide) (by decide) ⟨rfl,rfl,rfl⟩
 apply gT
 ·rfl
 ·intro hg;try simp only [hg,ct];try simp only [hg,ct,Bt]
  refine o_pcall (s23 [2]) rfl ⟨rfl,rfl,rfl⟩
 apply gT
 ·rfl
 ·intro hg;try simp only [hg,ct];try simp only [hg,ct,Bt]
  exact pb
 refine uA (ua (u_nil (WP.ret ?_)));refine ret_ok rfl ?_ (by omega) (fun t ht=>(hk9 t (by omega)).trans ((hk8 t (by omega)).trans ((hk7 t (by omega)).trans ((hk6 t (by omega)).trans ((hk4 t (by omega)).trans ((hk3 t (by omega))))))));refine congrArg D.bool ?_;simp only [mayF_A,mayF_B,match_A,match_B,ends_A,ends_B,count_BAA];rfl
theorem fn3:FnOk Tryz.prog 3 35 [4] (bodyOf Tryz.f3):=⟨Tryz.f3,Tryz.func3,by kernel_rfl,by decide,by kernel_rfl,by kernel_rfl⟩
theorem s3 (f:Flt) (e:Etr) (okf:OkF f) (ok:OkE e) (okd:∀ d∈e.deltas,szV d.value≤1099511627776):PSpec Tryz.prog 3 [.d (encF f),.d (encE e)] (.d (.bool true)):=by
 refine PSpec.of fn3 (by simp) fun o nk=>?_;refine wr ?_;refine u_step (g_box rfl fun o2 hb2 hk2=>?_);refine u_step (g_box rfl fun o3 hb3 hk3=>?_);have hb2_3:=(hk3 _ (by omega)).trans hb2;refine ua ?_;refine u_nil ?_;refine WP.seq fun K4 hK4=>?_;refine wr ?_;refine ug th24 hb2_3 ?_;refine ug th30 hb3 ?_;refine u_step (o_pcall (s13 f e ok okd) rfl ?_);refine u_nil ?_;refine wc (fun hc6=>?_) (fun hc6=>?_) <;> try simp only [Q0,Q1,Q2,Q3,Q4,Q5,Q6,Q7,Q8,ge_iff_le,gt_iff_lt] at hc6
 ·
  refine wr ?_;refine u_step (o_pcall (s14) rfl ?_);refine ua (u_nil (WP.ret ?_));refine ret_ok rfl ?_ (by omega) (fun t ht=>(hk3 t (by omega)).trans ((hk2 t (by omega))))
  first | rfl | (refine congrArg D.bool ?_;simp)
 ·
  refine WP.skip (hK4 _ (wd ?_));refine d_step (o_pcall (s14) rfl ⟨rfl,rfl,rfl⟩) ?_;refine dm ?_;apply d_guard
  ·exact GC.t _
  ·intro hg;exact pg th24 hb2_3
  apply d_guard
  ·exact GC.t _
  ·intro hg;try simp only [hg,ct];try simp only [hg,ct,Bt]
   refine o_pcall (s15 f okf) rfl ⟨rfl,rfl,rfl⟩
  apply d_guard
  ·exact GC.t _
  ·intro hg;exact pg th24 hb2_3
  apply d_guard
  ·exact GC.t _
  ·intro hg;try simp only [hg,ct];try simp only [hg,ct,Bt]
   refine o_pcall (s16 f) rfl ⟨rfl,rfl,rfl⟩
  apply d_guard
  ·exact GC.t _
  ·intro hg;try simp only [hg,ct];try simp only [hg,ct,Bt]
   refine o_bin_eqb rfl rfl th4 rfl ⟨rfl,rfl,rfl⟩
  refine dA ?_;refine dm ?_;apply d_guard
  ·exact GC.t _
  ·intro hg;exact pg th24 hb2_3
  apply d_guard
  ·exact GC.t _
  ·intro hg;exact pg th30 hb3
  apply d_guard
  ·exact GC.t _
  ·intro hg;try simp only [hg,ct];try simp only [hg,ct,Bt]
   refine o_pcall (s17 f e okf ok) rfl ⟨rfl,rfl,rfl⟩
  apply d_guard
  ·exact GC.t _
  ·intro hg;exact pg th24 hb2_3
  apply d_guard
  ·exact GC.t _
  ·intro hg;exact pg th30 hb3
  apply d_guard
  ·exact GC.t _
  ·intro hg;try simp only [hg,ct];try simp only [hg,ct,Bt]
   refine o_pcall (s18 f e ok) rfl ⟨rfl,rfl,rfl⟩
  apply d_guard
  ·exact GC.t _
  ·intro hg;try simp only [hg,ct];try simp only [hg,ct,Bt]
   refine o_bin_eqb rfl rfl th4 rfl ⟨rfl,rfl,rfl⟩
  refine dA ?_;refine dm ?_;apply d_guard
  ·exact GC.t _
  ·intro hg;exact pg th24 hb2_3
  apply d_guard
  ·exact GC.t _
  ·intro hg;exact pg th30 hb3
  apply d_guard
  ·exact GC.t _
  ·intro hg;try simp only [hg,ct];try simp only [hg,ct,Bt]
   refine o_pcall (s19 f e okf ok) rfl ⟨rfl,rfl,rfl⟩
  apply d_guard
  ·exact GC.t _
  ·intro hg;exact pg th24 hb2_3
  apply d_guard
  ·exact GC.t _
  ·intro hg;exact pg th30 hb3
  apply d_guard
  ·exact GC.t _
  ·intro hg;try simp only [hg,ct];try simp only [hg,ct,Bt]
   refine o_pcall (s20 f e ok) rfl ⟨rfl,rfl,rfl⟩
  apply d_guard
  ·exact GC.t _
  ·intro hg;try simp only [hg,ct];try simp only [hg,ct,Bt]
   refine o_bin_eqb rfl rfl th4 rfl ⟨rfl,rfl,rfl⟩
  refine dA ?_;refine da ?_;refine d_nil ?_;refine WP.ret ?_;refine ret_ok rfl ?_ (by omega) (fun t ht=>(hk3 t (by omega)).trans ((hk2 t (by omega))))
  first | rfl | (refine congrArg D.bool ?_;simp)
instance:Inhabited Etr:=⟨⟨0,0,[],[],zeroV,zeroV,[],0,0⟩⟩
theorem fn4:FnOk Tryz.prog 4 54 [4] (bodyOf Tryz.f4):=⟨Tryz.f4,Tryz.func4,by kernel_rfl,by decide,by kernel_rfl,by kernel_rfl⟩
theorem s4 (f:Flt) (l:List Etr) (okf:OkF f) (ok:∀ e∈l,OkE e) (okd:∀ e∈l,∀ d∈e.deltas,szV d.value≤1099511627776):PSpec Tryz.prog 4 [.d (encF f),.d (.sl 17 (l.map encE))] (.d (.bool true)):=by
 refine PSpec.bd fun hbd=>?_;have hx:l.length≤9223372036854775807:=by simpa using hbd.2.1.1
 have hcl:=countN_le f l;refine PSpec.of fn4 (by simp) fun o nk=>?_;refine wr ?_;refine u_step (g_box rfl fun o2 hb2 hk2=>?_);refine ua (u_nil (wr (ua (u_nil (wr (ua (u_nil (WP.seq fun K5 hK5=>?_))))))));refine wr (ua (u_nil (WP.block ?_)));refine WP.loopL (ι:=Nat×Nat×Bool) (fun ⟨i,n,b⟩=>⟨al [(1,.d (.sl 17 (l.map encE))),(2,.loc nk 0),(5,.d (.int .i64 (n:Nat))),(6,.d (.bool b)),(7,.d (.int .i64 i))],o2,(nk+1)⟩) (fun ⟨i,n,b⟩=>i≤l.length∧n≤i∧n+(if b=true then 0 else countN f (l.drop i))=countN f l) (fun ⟨i,n,b⟩=>l.length - i) (fun ⟨i,n,b⟩ hA=>?_) ⟨0,0,false⟩ ?_ ?_
 ·
  obtain ⟨hle,hni,hcn⟩:=hA;refine WP.seq fun K7 hK7=>?_;refine wr ?_;refine um ?_;refine um ?_;refine un th34 ?_;refine ub ?_;refine u_nil ?_;refine wc (fun hc9=>?_) (fun hc9=>?_) <;> try simp only [Q0,Q1,Q2,Q3,Q4,Q5,Q6,Q7,Q8,ge_iff_le,gt_iff_lt] at hc9
  ·
   have hin2:i < l.length:=by have:=hc9;(try simp at this);omega
   have hgd:l.getD i default=l[i]:=by simp [hin2]
   have hme:l[i]∈l:=List.getElem_mem _;have hst:=countN_at (f:=f) (l:=l) (i:=i) hin2;have hm1:(if matchV f l[i]=true then 1 else 0)≤1:=by split <;> omega
   refine WP.skip (hK7 _ (WP.seq fun K10 hK10=>?_));refine WP.block (WP.seq fun K11 hK11=>?_);refine wd ?_;refine dm ?_;refine db ?_;refine dm ?_;apply d_guard
   ·exact GC.f _
   ·intro hg;exact pg th24 hb2
   apply d_guard
   ·exact GC.f _
   ·intro hg;exact pm
   apply d_guard
   ·exact GC.f _
   ·intro hg;exact pm
   apply d_guard
   ·exact GC.f _
   ·intro hg;try simp only [hg,ct,Bt]
    refine o_ia_G (xs:=l) default rfl rfl th34 rfl th30 rfl hin2 ⟨rfl,rfl,rfl⟩
   apply d_guard
   ·exact GC.f _
   ·intro hg;try simp only [hg,ct,Bt]
    exact pL th30
   apply d_guard
   ·exact GC.f _
   ·intro hg;try simp only [hg,ct,Bt]
    refine o_pcall (s13 f (l.getD i default) (by rw [hgd];exact ok _ hme) (by rw [hgd];exact okd _ hme)) rfl ⟨rfl,rfl,rfl⟩
   refine dO ?_;refine d_nil ?_;refine wc (fun hc13=>?_) (fun hc13=>?_) <;> try simp only [Q0,Q1,Q2,Q3,Q4,Q5,Q6,Q7,Q8,ge_iff_le,gt_iff_lt] at hc13
   ·
    refine wr ?_;refine u_step (o_pcall (s14) rfl ?_);refine ua (u_nil (WP.ret ?_));refine ret_ok rfl ?_ (by omega) (fun t ht=>(hk2 t (by omega)));rfl
   ·
    refine WP.skip (hK11 _ ?_);refine WP.seqJ ⟨al [(1,.d (.sl 17 (l.map encE))),(2,.loc nk 0),(5,.d (.int .i64 (n+(if (!b && matchV f (l.getD i default))=true then 1 else 0):Nat))),(6,.d (.bool b)),(7,.d (.int .i64 i))],o2,(nk+1)⟩ ?_ ?_
    ·
     refine wd ?_;refine dm ?_;refine dN ?_;refine dm ?_;apply d_guard
     ·exact GC.t _
     ·intro hg;exact pg th24 hb2
     apply d_guard
     ·exact GC.t _
     ·intro hg;exact pm
     apply d_guard
     ·exact GC.t _
     ·intro hg;exact pm
     apply d_guard
     ·exact GC.t _
     ·intro hg;try simp only [hg,ct,Bt]
      refine o_ia_G (xs:=l) default rfl rfl th34 rfl th30 rfl hin2 ⟨rfl,rfl,rfl⟩
     apply d_guard
     ·exact GC.t _
     ·intro hg;try simp only [hg,ct,Bt]
      exact pL th30
     apply d_guard
     ·exact GC.t _
     ·intro hg;try simp only [hg,ct,Bt]
      refine o_pcall (s18 f (l.getD i default) (by rw [hgd];exact ok _ hme)) rfl ⟨rfl,rfl,rfl⟩
     refine dA ?_;refine d_nil ?_;refine wc (fun hc16=>?_) (fun hc16=>?_) <;> try simp only [Q0,Q1,Q2,Q3,Q4,Q5,Q6,Q7,Q8,ge_iff_le,gt_iff_lt] at hc16
     ·
      refine WP.reg tabOk rfl ?_;refine um (ub (ua (u_nil ?_)));refine Le.al ?_;simp only [List.forall_mem_cons];have hl:=hc16;refine ⟨rfl,rfl,?_,rfl,rfl,by simp⟩
      first | (rw [if_pos hl];exact cnt (by omega)) | (rw [if_neg (by simpa using hl)];rfl)
     ·
      refine WP.skip ?_;refine Le.al ?_;simp only [List.forall_mem_cons];have hl:=hc16;refine ⟨rfl,rfl,?_,rfl,rfl,by simp⟩
      first | (rw [if_pos hl];exact cnt (by omega)) | (rw [if_neg (by simpa using hl)];rfl)
    ·
     refine WP.drw tabOk (by kernel_rfl) rfl (by kernel_rfl) ?_;refine dm ?_;refine dm ?_;apply d_guard
     ·exact GC.f _
     ·intro hg;exact pg th24 hb2
     apply d_guard
     ·exact GC.f _
     ·intro hg;exact pm
     apply d_guard
     ·exact GC.f _
     ·intro hg;exact pm
     apply d_guard
     ·exact GC.f _
     ·intro hg;try simp only [hg,ct,Bt]
      refine o_ia_G (xs:=l) default rfl rfl th34 rfl th30 rfl hin2 ⟨rfl,rfl,rfl⟩
     apply d_guard
     ·exact GC.f _
     ·intro hg;try simp only [hg,ct,Bt]
      exact pL th30
     apply d_guard
     ·exact GC.f _
     ·intro hg;try simp only [hg,ct,Bt]
      refine o_pcall (s20 f (l.getD i default) (by rw [hgd];exact ok _ hme)) rfl ⟨rfl,rfl,rfl⟩
     refine dO ?_;refine da ?_;refine d_nil ?_;refine hK10 _ ?_;refine WP.reg tabOk rfl ?_;refine um ?_;refine ub ?_;refine ua ?_;refine u_nil ?_;refine ⟨⟨i+1,n+(if (!b && matchV f (l.getD i default))=true then 1 else 0),b || endsV f (l.getD i default)⟩,⟨by omega,by split <;> omega,?_⟩,by simp only;omega,?_⟩
     ·rw [hgd];cases b
      ·simp only [Bool.not_false,Bool.true_and,Bool.false_or];simp only [Bool.false_eq_true,if_false] at hcn;rw [← hcn,hst];omega
      ·simp at hcn ⊢;omega
     ·refine Le.al ?_;simp only [List.forall_mem_cons];exact ⟨rfl,rfl,rfl,rfl,cnt (by omega),by simp⟩
  ·
   refine WP.exit ?_;refine hK5 _ (wr ?_);refine u_step (o_pcall (s14) rfl ?_);refine um ?_;apply gT
   ·rfl
   ·intro hg;exact pg th24 hb2
   apply gT
   ·rfl
   ·intro hg;exact pm
   apply gT
   ·rfl
   ·intro hg;try simp only [hg,ct,Bt]
    refine o_pcall (s21 f l okf ok) rfl ⟨rfl,rfl,rfl⟩
   apply gT
   ·rfl
   ·intro hg;exact pm
   apply gT
   ·rfl
   ·intro hg;try simp only [hg,ct,Bt]
    exact pb
   refine uA (ua (u_nil (WP.ret ?_)));refine ret_ok rfl ?_ (by omega) (fun t ht=>(hk2 t (by omega)));refine congrArg D.bool ?_;have e:l.drop i=[]:=List.drop_eq_nil_of_le (by omega);rw [e,countN] at hcn;have hq:countN f l=n:=by rw [← hcn];simp
   rw [hq];simp
 ·
  exact ⟨by omega,by omega,by simp⟩
 ·
  refine Le.al ?_;simp only [List.forall_mem_cons];exact ⟨rfl,rfl,rfl,rfl,rfl,by simp⟩
section
variable {H:Type} {enc:TypeId×Value→H} {w:World} {base fuel:Nat} {spare:Nat→Bool} {held:Bool} {cs:List Value} {x:DataW H×List MemPlace}
theorem all_len:∀ (es:List (DataW H)),es.length≤Rows.uptoBulkAll es
 | []=>by simp [Rows.uptoBulkAll]
 | e :: es=>by
  have:=all_len es;have:=one_le e;simp only [List.length_cons,Rows.uptoBulkAll];omega
theorem sl_len {α:Type} {A:α→DataW H→Prop} {l:List α} {d:DataW H} (h:SlD A l d):l.length≤Rows.uptoBulk d:=by
 rcases h with ⟨_,rfl⟩ | ⟨es,sp,rfl,h1,h2⟩
 ·simp
 ·have:=all_len es;simp only [Rows.uptoBulk];omega
end
theorem s7 (l:List Dlt) (b:List UInt8) (hok:l.length≤64→∀ d∈l,okD d) (hsz:∀ d∈l,szV d.value≤1099511627776) (hbl:b.length≤1048576):PSpec Tryz.prog 7 [.d (.sl 8 (l.map encD)),.d (.sl 1 (b.map encB))] (.d (.bool true)):=by
 by_cases hc:checkD l=0
 ·exact s7y l b hok hsz hbl hc
 ·exact s7n l b hok hsz hbl hc
end Go.Proofs.YtpkcbdhjnnnkbaaGreat.Abs

namespace Go.Proofs.YtpkcbdhjnnnkbaaGreat.lawDeltaCodes
open Go Abs
open Go.ChangeShapes Go.WideShapes Go.ChangeAt Go.RowKit
theorem own:ownKnob Tryz.prog.godebug=none:=by kernel_rfl
theorem laid:laidOutB Tryz.prog=true:=by kernel_rfl
theorem contract (H:Type) (enc:TypeId×Value→H) (W:World) (base:Nat) (args:Array Value) (ds gs:List (DataW H)) (before:List MemPlace)
    (hval:∀ (j:Nat) t v,Tryz.f7.params[j]?=some t→args[j]?=some v→Value.okWide Tryz.prog W .any base t v)
    (hW:DataW.Whole enc Tryz.prog Tryz.f7.params.toList Rows.deltaCodesSpec.vars false W args.toList ds gs before) (hk:Rows.uptoSmall H (ds++gs)=true) :
    Calls Tryz.prog 7 args W fun e W'=>∃ v,e=.returned v∧Rows.deltaCodesSpec.post enc Tryz.prog Tryz.f7 false true false false W args v W':=by
  have hW':=hW;obtain ⟨p,q,hA0,hV,rfl,hfz,hnd⟩:=hW;have hA:DataW.TrodAll enc Tryz.prog W 0 (fun _=>true) true Tryz.f7.params.toList args.toList ds p:=hA0;rw [Tryz.params7] at hA hval;obtain ⟨v0,vs0,d0,ds0,p0,q0,hargs,rfl,rfl,h0,r0⟩:=trodAll_cons hA;obtain ⟨v1,vs1,d1,ds1,p1,q1,rfl,rfl,rfl,h1,r1⟩:=trodAll_cons r0;obtain ⟨rfl,rfl,rfl⟩:=trodAll_nil r1;obtain rfl:args=#[v0,v1]:=by cases args;simp_all
  obtain ⟨rfl,rfl⟩:=trodVars_none hV;clear hA0;simp only [List.append_nil] at hW' hk;have hb:Rows.uptoBulkAll [d0,d1]≤1048576:=of_decide_eq_true hk;simp only [Rows.uptoBulkAll] at hb;obtain ⟨n0,t0⟩:=h0;obtain ⟨l,c0,a0⟩:=open_dlts t0;have x0:=rdv_one (hval 0 28 v0 rfl rfl) (tabOk _ _ th28) rfl c0;obtain ⟨n1,t1⟩:=h1;obtain ⟨b,c1,a1⟩:=open_bytes t1;have x1:=rdv_one (hval 1 52 v1 rfl rfl) (tabOk _ _ th52) rfl c1;have hda:=dlts_all (d:=d0) a0;have hok:l.length≤64→∀ x∈l,okD x:=fun _ x hx=>⟨hda.2 x hx,by have:=szDs_mem hx;omega⟩;have hsz:∀ x∈l,szV x.value≤1099511627776:=fun x hx=>by have:=szDs_mem hx;omega
  have hbl:=sl_len (d:=d1) a1;refine (calls_of_spec (vs:=[v0,v1]) (ds:=[.sl 8 (l.map encD),.sl 1 (b.map encB)]) Tryz.func7 (by kernel_rfl) (by kernel_rfl) (s7 l b hok hsz (by omega)) ⟨rfl,fun i x v hx hv=>?_⟩).mono fun e W' ⟨he,hg⟩=>?_
  · match i,hx,hv with
    | 0,hx,hv=>simp at hx hv;subst hx;subst hv;exact x0
    | 1,hx,hv=>simp at hx hv;subst hx;subst hv;exact x1
    | i+2,hx,hv=>simp at hx
  subst he;exact ⟨_,rfl,post_of_below (pa:=p0++(p1++[])) (pv:=[]) hW' (fun _ _ _=>trodAll_cons_mk (shut_bool Tryz.underlying4 _) trodAll_mk0) (fun sp hs=>trodAll_stays laid hg (by kernel_rfl) hA (fun x hx=>hs x (by simpa using hx)) (fun x hx=>hW'.lt x (by simpa using hx))) (fun _ _=>rfl) (by simp) hg (ok_one (by kernel_rfl) rfl (okWide_bool_mk Tryz.underlying4 _))⟩
set_option maxRecDepth 100000 in
theorem lifted (os:Os) (started:os.Started) (H:Type) (enc:TypeId×Value→H) (F:Stop.Interp) :
    ReturnsInHanded {} Tryz.checked os 7 .any ((Rows.OpenSpec.upto Rows.deltaCodesSpec).pre6 enc Tryz.prog Tryz.f7 Rows.deltaCodesUptoRow.domain false) (((Rows.OpenSpec.upto Rows.deltaCodesSpec).at F).post enc Tryz.prog Tryz.f7 false true false false):=by
  refine returnsInHanded_of_cond (C:=Tryz.checked) (s:=Rows.OpenSpec.upto Rows.deltaCodesSpec) (k:=Rows.uptoSmall) rfl own started (by kernel_rfl) Tryz.func7
    (OpenSpec.witness (enc:=enc) (C:=Tryz.checked) (s:=Rows.OpenSpec.upto Rows.deltaCodesSpec) (k:=Rows.uptoSmall) rfl false ⟨#[],#[.slice none 0 0,.slice none 0 0],[]⟩ 8 (by kernel_rfl) (by kernel_rfl) (by kernel_rfl)
      (x:=([.nil,.nil],[],[])) (by kernel_rfl) rfl (by kernel_rfl)) ?_
  intro W base args ds gs before hval hW _ hk _;exact contract H enc W base args ds gs before hval hW hk
theorem j0:(fun (P:Program) (f:FuncId) (fn:Func) (s:ChangeSpec) (c:OpenClaim)=>(c.wf (OpenSpec.ofChange s):Bool)) Tryz.checked.prog 7 Tryz.f7 (Rows.OpenSpec.upto Rows.deltaCodesSpec).bare Rows.deltaCodesUptoRow=true:=by kernel_rfl
theorem j1:(fun (P:Program) (f:FuncId) (fn:Func) (s:ChangeSpec) (c:OpenClaim)=>(laidOutB P:Bool)) Tryz.checked.prog 7 Tryz.f7 (Rows.OpenSpec.upto Rows.deltaCodesSpec).bare Rows.deltaCodesUptoRow=true:=by kernel_rfl
theorem j2:(fun (P:Program) (f:FuncId) (fn:Func) (s:ChangeSpec) (c:OpenClaim)=>(mapsRowed P:Bool)) Tryz.checked.prog 7 Tryz.f7 (Rows.OpenSpec.upto Rows.deltaCodesSpec).bare Rows.deltaCodesUptoRow=true:=by kernel_rfl
theorem j3:(fun (P:Program) (f:FuncId) (fn:Func) (s:ChangeSpec) (c:OpenClaim)=>(fn.params.all (P.readableRec ·):Bool)) Tryz.checked.prog 7 Tryz.f7 (Rows.OpenSpec.upto Rows.deltaCodesSpec).bare Rows.deltaCodesUptoRow=true:=by kernel_rfl
theorem j4:(fun (P:Program) (f:FuncId) (fn:Func) (s:ChangeSpec) (c:OpenClaim)=>(namedTie P c.named s.vars:Bool)) Tryz.checked.prog 7 Tryz.f7 (Rows.OpenSpec.upto Rows.deltaCodesSpec).bare Rows.deltaCodesUptoRow=true:=by kernel_rfl
theorem j5:(fun (P:Program) (f:FuncId) (fn:Func) (s:ChangeSpec) (c:OpenClaim)=>((c.stops == []):Bool)) Tryz.checked.prog 7 Tryz.f7 (Rows.OpenSpec.upto Rows.deltaCodesSpec).bare Rows.deltaCodesUptoRow=true:=by kernel_rfl
theorem j6:(fun (P:Program) (f:FuncId) (fn:Func) (s:ChangeSpec) (c:OpenClaim)=>((P.stops == []):Bool)) Tryz.checked.prog 7 Tryz.f7 (Rows.OpenSpec.upto Rows.deltaCodesSpec).bare Rows.deltaCodesUptoRow=true:=by kernel_rfl
theorem j7:(fun (P:Program) (f:FuncId) (fn:Func) (s:ChangeSpec) (c:OpenClaim)=>((c.knobs == []):Bool)) Tryz.checked.prog 7 Tryz.f7 (Rows.OpenSpec.upto Rows.deltaCodesSpec).bare Rows.deltaCodesUptoRow=true:=by kernel_rfl
theorem j8:(fun (P:Program) (f:FuncId) (fn:Func) (s:ChangeSpec) (c:OpenClaim)=>((P.stopKnobs == []):Bool)) Tryz.checked.prog 7 Tryz.f7 (Rows.OpenSpec.upto Rows.deltaCodesSpec).bare Rows.deltaCodesUptoRow=true:=by kernel_rfl
theorem j9:(fun (P:Program) (f:FuncId) (fn:Func) (s:ChangeSpec) (c:OpenClaim)=>((c.inPlace == P.inPlace f):Bool)) Tryz.checked.prog 7 Tryz.f7 (Rows.OpenSpec.upto Rows.deltaCodesSpec).bare Rows.deltaCodesUptoRow=true:=by kernel_rfl
theorem j10:(fun (P:Program) (f:FuncId) (fn:Func) (s:ChangeSpec) (c:OpenClaim)=>((c.unfollowed == P.unfollowed f):Bool)) Tryz.checked.prog 7 Tryz.f7 (Rows.OpenSpec.upto Rows.deltaCodesSpec).bare Rows.deltaCodesUptoRow=true:=by kernel_rfl
theorem j11:(fun (P:Program) (f:FuncId) (fn:Func) (s:ChangeSpec) (c:OpenClaim)=>((c.recurses == P.recurses f):Bool)) Tryz.checked.prog 7 Tryz.f7 (Rows.OpenSpec.upto Rows.deltaCodesSpec).bare Rows.deltaCodesUptoRow=true:=by kernel_rfl
theorem j12:(fun (P:Program) (f:FuncId) (fn:Func) (s:ChangeSpec) (c:OpenClaim)=>((c.named == P.varsNamed f):Bool)) Tryz.checked.prog 7 Tryz.f7 (Rows.OpenSpec.upto Rows.deltaCodesSpec).bare Rows.deltaCodesUptoRow=true:=by kernel_rfl
theorem j13:(fun (P:Program) (f:FuncId) (fn:Func) (s:ChangeSpec) (c:OpenClaim)=>((c.maps == (fn.params.toList++s.plain.varTypes P).any (P.mapsRec ·)):Bool)) Tryz.checked.prog 7 Tryz.f7 (Rows.OpenSpec.upto Rows.deltaCodesSpec).bare Rows.deltaCodesUptoRow=true:=by kernel_rfl
theorem j14:(fun (P:Program) (f:FuncId) (fn:Func) (s:ChangeSpec) (c:OpenClaim)=>((c.ifaces == (fn.params.toList++s.plain.varTypes P).any (P.ifacesRec ·)):Bool)) Tryz.checked.prog 7 Tryz.f7 (Rows.OpenSpec.upto Rows.deltaCodesSpec).bare Rows.deltaCodesUptoRow=true:=by kernel_rfl
theorem j15:(fun (P:Program) (f:FuncId) (fn:Func) (s:ChangeSpec) (c:OpenClaim)=>((c.mapsOut == P.mapsAmong fn.resultTypes.toList):Bool)) Tryz.checked.prog 7 Tryz.f7 (Rows.OpenSpec.upto Rows.deltaCodesSpec).bare Rows.deltaCodesUptoRow=true:=by kernel_rfl
theorem j16:(fun (P:Program) (f:FuncId) (fn:Func) (s:ChangeSpec) (c:OpenClaim)=>((c.loops == (fn.params.toList++s.plain.varTypes P).any (P.loopsFrom ·)):Bool)) Tryz.checked.prog 7 Tryz.f7 (Rows.OpenSpec.upto Rows.deltaCodesSpec).bare Rows.deltaCodesUptoRow=true:=by kernel_rfl
theorem j17:(fun (P:Program) (f:FuncId) (fn:Func) (s:ChangeSpec) (c:OpenClaim)=>((c.wideKeys == (fn.params.toList++s.plain.varTypes P++fn.resultTypes.toList).any (P.wideKeysFrom ·)):Bool)) Tryz.checked.prog 7 Tryz.f7 (Rows.OpenSpec.upto Rows.deltaCodesSpec).bare Rows.deltaCodesUptoRow=true:=by kernel_rfl
theorem j18:(fun (P:Program) (f:FuncId) (fn:Func) (s:ChangeSpec) (c:OpenClaim)=>(s.vars.all (P.varReadable ·):Bool)) Tryz.checked.prog 7 Tryz.f7 (Rows.OpenSpec.upto Rows.deltaCodesSpec).bare Rows.deltaCodesUptoRow=true:=by kernel_rfl
theorem j19:(fun (P:Program) (f:FuncId) (fn:Func) (s:ChangeSpec) (c:OpenClaim)=>(fn.resultTypes.all (fun t=>P.readableRec t && decide (t < P.types.size)):Bool)) Tryz.checked.prog 7 Tryz.f7 (Rows.OpenSpec.upto Rows.deltaCodesSpec).bare Rows.deltaCodesUptoRow=true:=by kernel_rfl
theorem j20:(fun (P:Program) (f:FuncId) (fn:Func) (s:ChangeSpec) (c:OpenClaim)=>((c.ifacesOut == fn.resultTypes.toList.any (P.ifacesRec ·)):Bool)) Tryz.checked.prog 7 Tryz.f7 (Rows.OpenSpec.upto Rows.deltaCodesSpec).bare Rows.deltaCodesUptoRow=true:=by kernel_rfl
theorem j21:(fun (P:Program) (f:FuncId) (fn:Func) (s:ChangeSpec) (c:OpenClaim)=>((c.loopsOut == fn.resultTypes.toList.any (P.loopsFrom ·)):Bool)) Tryz.checked.prog 7 Tryz.f7 (Rows.OpenSpec.upto Rows.deltaCodesSpec).bare Rows.deltaCodesUptoRow=true:=by kernel_rfl
theorem j22:(fun (P:Program) (f:FuncId) (fn:Func) (s:ChangeSpec) (c:OpenClaim)=>((c.plainKeys == P.plainKeys):Bool)) Tryz.checked.prog 7 Tryz.f7 (Rows.OpenSpec.upto Rows.deltaCodesSpec).bare Rows.deltaCodesUptoRow=true:=by kernel_rfl
theorem j23:(fun (P:Program) (f:FuncId) (fn:Func) (s:ChangeSpec) (c:OpenClaim)=>(c.shortTexts.isNone:Bool)) Tryz.checked.prog 7 Tryz.f7 (Rows.OpenSpec.upto Rows.deltaCodesSpec).bare Rows.deltaCodesUptoRow=true:=by kernel_rfl
theorem j24:(fun (P:Program) (f:FuncId) (fn:Func) (s:ChangeSpec) (c:OpenClaim)=>(P.stopsHeard:Bool)) Tryz.checked.prog 7 Tryz.f7 (Rows.OpenSpec.upto Rows.deltaCodesSpec).bare Rows.deltaCodesUptoRow=true:=by kernel_rfl
theorem j25:(fun (P:Program) (f:FuncId) (fn:Func) (s:ChangeSpec) (c:OpenClaim)=>(P.mayEnter:Bool)) Tryz.checked.prog 7 Tryz.f7 (Rows.OpenSpec.upto Rows.deltaCodesSpec).bare Rows.deltaCodesUptoRow=true:=by kernel_rfl
theorem j26:(fun (P:Program) (f:FuncId) (fn:Func) (s:ChangeSpec) (c:OpenClaim)=>((c.lifted == P.liftsFinal):Bool)) Tryz.checked.prog 7 Tryz.f7 (Rows.OpenSpec.upto Rows.deltaCodesSpec).bare Rows.deltaCodesUptoRow=true:=by kernel_rfl
theorem j27:(fun (P:Program) (f:FuncId) (fn:Func) (s:ChangeSpec) (c:OpenClaim)=>((P.make == some c.make):Bool)) Tryz.checked.prog 7 Tryz.f7 (Rows.OpenSpec.upto Rows.deltaCodesSpec).bare Rows.deltaCodesUptoRow=true:=by kernel_rfl
theorem j28:(fun (P:Program) (f:FuncId) (fn:Func) (s:ChangeSpec) (c:OpenClaim)=>((c.kinds == (if c.domain.isEmpty then [] else fn.params.toList.map fun t=>match P.underlying t with | some (.int k)=>some k | _=>none)):Bool)) Tryz.checked.prog 7 Tryz.f7 (Rows.OpenSpec.upto Rows.deltaCodesSpec).bare Rows.deltaCodesUptoRow=true:=by kernel_rfl
theorem j29:(fun (P:Program) (f:FuncId) (fn:Func) (s:ChangeSpec) (c:OpenClaim)=>((c.pinned == c.pinnedBy):Bool)) Tryz.checked.prog 7 Tryz.f7 (Rows.OpenSpec.upto Rows.deltaCodesSpec).bare Rows.deltaCodesUptoRow=true:=by kernel_rfl
theorem j30:(fun (P:Program) (f:FuncId) (fn:Func) (s:ChangeSpec) (c:OpenClaim)=>((c.veiled == (fn.params.toList++s.plain.varTypes P++fn.resultTypes.toList).any (P.veiledRec ·)):Bool)) Tryz.checked.prog 7 Tryz.f7 (Rows.OpenSpec.upto Rows.deltaCodesSpec).bare Rows.deltaCodesUptoRow=true:=by kernel_rfl
theorem j31:(fun (P:Program) (f:FuncId) (fn:Func) (s:ChangeSpec) (c:OpenClaim)=>(c.veiledFits P fn.params.toList (fn.params.toList++s.plain.varTypes P++fn.resultTypes.toList):Bool)) Tryz.checked.prog 7 Tryz.f7 (Rows.OpenSpec.upto Rows.deltaCodesSpec).bare Rows.deltaCodesUptoRow=true:=by kernel_rfl
theorem jand (a b:Bool) (h1:a=true) (h2:b=true):(a && b)=true:=by rw [h1,h2];rfl
theorem closed:joinedFacts Tryz.checked.prog 7 Tryz.f7 (Rows.OpenSpec.upto Rows.deltaCodesSpec).bare Rows.deltaCodesUptoRow=true:=jand _ _ (jand _ _ (jand _ _ (jand _ _ (jand _ _ (jand _ _ (jand _ _ (jand _ _ (jand _ _ (jand _ _ (jand _ _ (jand _ _ (jand _ _ (jand _ _ (jand _ _ (jand _ _ (jand _ _ (jand _ _ (jand _ _ (jand _ _ (jand _ _ (jand _ _ (jand _ _ (jand _ _ (jand _ _ (jand _ _ (jand _ _ (jand _ _ (jand _ _ (jand _ _ (jand _ _ j0 j1) j2) j3) j4) j5) j6) j7) j8) j9) j10) j11) j12) j13) j14) j15) j16) j17) j18) j19) j20) j21) j22) j23) j24) j25) j26) j27) j28) j29) j30) j31
theorem over:Rows.deltaCodesUptoRow.holds Tryz.pinned (Rows.OpenSpec.upto Rows.deltaCodesSpec):=
 OpenClaim.holds_of_cond 7 Tryz.f7 rfl rfl rfl rfl rfl rfl rfl ⟨rfl,rfl,rfl,rfl,rfl⟩ rfl rfl rfl rfl rfl (by kernel_rfl) Tryz.func7 closed
  (of_decide_eq_true (by kernel_rfl)) (by unfold Func.isWrapper;first | (rw [if_pos (by decide +kernel)];kernel_rfl) | (rw [if_neg (by decide +kernel)];exact ⟨rfl,rfl⟩))
  (fun os started H enc _ F=>lifted os started H enc F)
end Go.Proofs.YtpkcbdhjnnnkbaaGreat.lawDeltaCodes
namespace Go.Proofs.YtpkcbdhjnnnkbaaGreat
theorem deltaCodes_upto_holds:Rows.DeltaCodesUptoSaid:=lawDeltaCodes.over
end Go.Proofs.YtpkcbdhjnnnkbaaGreat
