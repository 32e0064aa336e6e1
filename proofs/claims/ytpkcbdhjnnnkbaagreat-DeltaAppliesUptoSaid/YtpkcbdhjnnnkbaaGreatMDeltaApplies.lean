/- DeltaApplies: called with any value and any changes that hold together at most 1048576 values and letters, the law answers true, and both read afterwards as they read before. -/
import Derived.Test.YtpkcbdhjnnnkbaaGreatMDeltaApplies4
import Derived.Test.YtpkcbdhjnnnkbaaGreatMDeltaApplies3
set_option linter.unusedSimpArgs false
set_option linter.unusedVariables false
set_option maxHeartbeats 1000000
set_option maxRecDepth 10000
namespace Go.Proofs.YtpkcbdhjnnnkbaaGreat.Abs
open Go
theorem szVs_app2:∀ (a b:List Val),szVs (a++b)=szVs a+szVs b
 | [],b=>by simp [szVs]
 | x :: a,b=>by simp only [List.cons_append,szVs,szVs_app2 a b];omega
theorem szN_app2:∀ (a b:List Str),szN (a++b)=szN a+szN b
 | [],b=>by simp [szN]
 | x :: a,b=>by simp only [List.cons_append,szN,szN_app2 a b];omega
theorem szVs_set:∀ {xs:List Val} {j:Nat} {y x:Val},xs[j]?=some y→szVs (xs.set j x)+szV y=szVs xs+szV x
 | z :: xs,0,y,x,h=>by simp only [List.getElem?_cons_zero,Option.some.injEq] at h;subst h;simp only [List.set_cons_zero,szVs];omega
 | z :: xs,j+1,y,x,h=>by
  have:=szVs_set (xs:=xs) (j:=j) (y:=y) (x:=x) (by simpa using h);simp only [List.set_cons_succ,szVs];omega
 | [],j,y,x,h=>by simp at h
theorem szVs_erase:∀ {xs:List Val} {j:Nat},szVs (xs.eraseIdx j)≤szVs xs
 | [],j=>by simp
 | z :: xs,0=>by simp only [List.eraseIdx_cons_zero,szVs];omega
 | z :: xs,j+1=>by have:=szVs_erase (xs:=xs) (j:=j);simp only [List.eraseIdx_cons_succ,szVs];omega
theorem szN_erase:∀ {xs:List Str} {j:Nat},szN (xs.eraseIdx j)≤szN xs
 | [],j=>by simp
 | z :: xs,0=>by simp only [List.eraseIdx_cons_zero,szN];omega
 | z :: xs,j+1=>by have:=szN_erase (xs:=xs) (j:=j);simp only [List.eraseIdx_cons_succ,szN];omega
theorem szV_parts (v:Val):szV v=1+v.text.length+szVs v.items+szN v.names:=by obtain ⟨k,i,t,xs,ns⟩:=v;rfl
theorem szV_swap {v x y:Val} {j:Nat} (h:v.items[j]?=some y):szV (swapV v j x)+szV y=szV v+szV x:=by
 have:=szVs_set (x:=x) h;rw [szV_parts (swapV v j x),szV_parts v];simp only [swapV,Val.text,Val.items,Val.names] at *;omega
theorem szV_grow (v:Val) (s:Str) (x:Val):szV (growV v s x)≤szV v+szV x+(s.length+1):=by
 have h1:szVs (v.items++[x])=szVs v.items+szV x:=by rw [szVs_app2];simp [szVs]
 have h2:szN (if v.kind=7 then v.names++[s] else v.names)≤szN v.names+(s.length+1):=by
  split
  ·rw [szN_app2];simp [szN]
  ·omega
 have h3:szV (growV v s x)=1+v.text.length+szVs (v.items++[x])+szN (if v.kind=7 then v.names++[s] else v.names):=rfl;rw [h3,h1,szV_parts v];omega
theorem szV_one (v:Val):1≤szV v:=by rw [szV_parts];omega
theorem szV_setP:∀ (p:List Str) (v x:Val),mayV v=true→szV (setP v p x).1≤szV v+szV x+szN p+p.length
 | [],v,x,_=>by simp only [setP,szN];omega
 | s :: p,v,x,hm=>by
  simp only [szN,List.length_cons];by_cases h0:0≤placeV v s
  ·have hlt:=place_lt hm s;obtain ⟨y,hy⟩:∃ y,v.items[(placeV v s).toNat]?=some y:=item_ex (by omega);rw [setP_in h0 hy];have ih:=szV_setP p y x (may_item hm (List.mem_of_getElem? hy));have:=szV_swap (x:=(setP y p x).1) hy;simp only;omega
  ·by_cases h7:v.kind=7
   ·rw [setP_doc h0 h7];have ih:=szV_setP p (.mk 7 0 [] [] []) x (by decide);have:=szV_grow v s (setP (.mk 7 0 [] [] []) p x).1;have e:szV (.mk 7 0 [] [] [])=1:=by simp [szV,szVs,szN]
    simp only;omega
   ·by_cases h6:v.kind=6
    ·rw [setP_arr h0 h7 h6];have:=szV_grow v [] x;simp only [List.length_nil] at *;omega
    ·rw [setP_no h0 h7 h6];simp only;omega
theorem szV_at {f:Val→Nat→Val} {c:Nat} (hf:∀ v i y,v.items[i]?=some y→szV (f v i)≤szV v+c):∀ (p:List Str) (v:Val),mayV v=true→szV (atV f v p)≤szV v+c
 | [],v,_=>by simp only [atV];omega
 | s :: p,v,hm=>by
  by_cases h0:placeV v s < 0
  ·rw [at_no h0];omega
  ·have hlt:=place_lt hm s;obtain ⟨y,hy⟩:∃ y,v.items[(placeV v s).toNat]?=some y:=item_ex (by omega);by_cases hp:p=[]
   ·subst hp;rw [at_do h0];exact hf _ _ _ hy
   ·rw [at_in h0 hp hy];have ih:=szV_at hf p y (may_item hm (List.mem_of_getElem? hy));have:=szV_swap (x:=atV f y p) hy;omega
theorem szV_without (v:Val) (i:Nat) (y:Val) (h:v.items[i]?=some y):szV (withoutV v i)≤szV v+1:=by
 unfold withoutV;split
 ·have:=szV_swap (x:=nullV) h;have e:szV nullV=1:=by simp [nullV,szV,szVs,szN]
  omega
 ·have h1:=szVs_erase (xs:=v.items) (j:=i);have h2:=szN_erase (xs:=v.names) (j:=i);rw [szV_parts v];simp only [szV];omega
theorem szVs_takeL (xs:List Val) (n:Nat):szVs (xs.take n)≤szVs xs:=by
 have:=szVs_app2 (xs.take n) (xs.drop n);rw [List.take_append_drop] at this;omega
theorem szV_cut (n:Nat) (v:Val) (i:Nat) (y:Val) (h:v.items[i]?=some y):szV (cutV n v i)≤szV v+0:=by
 by_cases hc:y.kind≠6∨y.items.length≤n
 ·rw [cut_no h hc];omega
 ·rw [cut_yes h hc];have:=szV_swap (x:=cutI n y) h;have h2:szV (cutI n y)≤szV y:=by
   have:=szVs_takeL y.items n;rw [szV_parts y];simp only [cutI,szV];omega
  omega
def dS (d:Dlt):Nat:=szV d.value+szN d.path+d.path.length+1
theorem szV_do {v:Val} {d:Dlt} (hm:mayV v=true):szV (doV v d)≤szV v+dS d:=by
 unfold doV dS;split
 ·have:=szV_setP d.path v d.value hm;omega
 ·split
  ·have:=szV_at szV_without d.path v hm;omega
  ·have:=szV_at (szV_cut d.n.toNat) d.path v hm;omega
def doR (v:Val) (d:Dlt):Val:=if doE v d=0 then doV v d else zeroV
theorem zAgg_le:D.le zAgg (encV zeroV):=by simp [zAgg,zeroV,encV,encVs,D.le,D.les]
theorem s78 (v:Val) (d:Dlt) (hsz:szV v≤1099511627776) (hsr:mayV v=true→szV (doV v d)≤1099511627776):PSpec Tryz.prog 78 [.d (encV v),.d (encD d)] (.tup ([encV (doR v d),.int .i64 (doE v d)].map .d)):=by
 by_cases he:doE v d=0
 ·have h:=s78y v d hsz hsr he;rw [doR,if_pos he,he];exact h
 ·have h:=(s78n v d hsz hsr he).leT (ys:=[encV zeroV,.int .i64 (doE v d)]) (by simp only [D.les];exact ⟨zAgg_le,D.le_refl _,trivial⟩);rw [doR,if_neg he];exact h
def appP:List Dlt→Val→Val×Int
 | [],v=>(v,0)
 | d :: l,v=>if doE v d=0 then appP l (doV v d) else (v,doE v d)
theorem appP_ok {l:List Dlt} {i:Nat} {d:Dlt} {u:Val} (h:i < l.length) (hd:d=l[i]'h) (he:doE u d=0):appP (l.drop i) u=appP (l.drop (i+1)) (doR u d):=by
 rw [List.drop_eq_getElem_cons h,← hd,appP,if_pos he,doR,if_pos he]
theorem appP_no {l:List Dlt} {i:Nat} {d:Dlt} {u:Val} (h:i < l.length) (hd:d=l[i]'h) (he:¬ doE u d=0):(appP (l.drop i) u).2=doE u d:=by
 rw [List.drop_eq_getElem_cons h,← hd,appP,if_neg he]
def applyE (v:Val) (l:List Dlt):Int:=if ¬ checkD l=0 then checkD l else if v.kind≠7∨mayV v=false then 20 else (appP l v).2
def applyD (v:Val) (l:List Dlt):D:=if applyE v l=0 then encV (appP l v).1 else zAgg
theorem doE_may {v:Val} {d:Dlt} (h:doE v d=0):mayV v=true:=by
 unfold doE at h;split at h
 ·by_cases hz:chkT v d.path=0
  ·exact (chkT_may hz).1
  ·by_cases hA:v.kind=7∧mayV d.value=false
   ·rw [(set_a hA).2] at h;cases h
   ·rw [(set_b hA hz).2] at h;exact absurd h hz
 ·split at h
  ·exact (chkT_may h).1
  ·unfold cutE at h;split at h
   ·rename_i hz;exact (chkT_may hz).1
   ·rename_i hz;exact absurd h hz
theorem s78c (v:Val) (d:Dlt) (hsz:szV v≤1099511627776) (hsr:mayV v=true→szV (doV v d)≤1099511627776):PSpec Tryz.prog 78 [.d (.agg (valCells v)),.d (encD d)] (.tup ([encV (doR v d),.int .i64 (doE v d)].map .d)):=by
 have h:=s78 v d hsz hsr;rw [encV_eq v] at h;exact h
theorem fn29:FnOkC Tryz.prog 29 47 [.cell 4 27,.tmp 5] (bodyOf Tryz.f29):=⟨Tryz.f29,Tryz.func29,by kernel_rfl,by decide,by kernel_rfl,by kernel_rfl⟩
theorem s29 (v:Val) (l:List Dlt) (hok:∀ d∈l,okD d) (hsz:szV v≤274877906944) (hds:∀ d∈l,dS d≤8589934592):PSpec Tryz.prog 29 [.d (encV v),.d (.sl 8 (l.map encD))] (.tup (([applyD v l,.int .i64 (applyE v l)]).map .d)):=by
 obtain ⟨kd,it,tx,xs,ns⟩:=v;refine PSpec.of2C tabOk fn29 (by simp) fun o nk=>?_;refine wr ?_;refine u_step (g_box rfl fun o2 hb2 hk2=>?_);refine u_step (g_alloc th27 rfl fun o3 hb3 hk3=>?_);have hb2_3:=(hk3 _ (by omega)).trans hb2;refine ua ?_;refine u_nil ?_;refine WP.seq fun K4 hK4=>?_;refine wr ?_;refine um ?_;refine u_step (o_pcall (s72 l (fun _=>hok)) rfl ?_);refine ua ?_;refine u_nil ?_;refine wr ?_;refine um ?_;refine ub ?_;refine u_nil ?_;refine wc (fun hc7=>?_) (fun hc7=>?_) <;> try simp only [Q0,Q1,Q2,Q3,Q4,Q5,Q6,Q7,Q8,ge_iff_le,gt_iff_lt] at hc7
 ·
  have hz:¬ checkD l=0:=by have hgo:=hc7;simpa using hgo
  refine wr ?_;refine u_step (o_bu rfl th27 rfl rfl ?_);refine um ?_;refine u_step0 (g_sta rfl rfl th27 rfl hb3 (by first | (simp;done) | (simp [D.leaves,D.width,valCells];done) | decide) fun o9 hb9 hk9=>?_);have hb2_9:=(hk9 _ (by omega)).trans hb2_3;refine ua (u_nil (WP.ret ?_));refine retC_ok (resis_agg rfl th27 rfl hb9 rfl rfl rfl) rfl ?_ ?_ (by omega) (fun t ht=>(hk9 t (by omega)).trans ((hk3 t (by omega)).trans ((hk2 t (by omega)))))
  ·have hE:applyE (.mk kd it tx xs ns) l=checkD l:=by rw [applyE,if_pos hz]
   rw [applyD,if_neg (by rw [hE];exact hz)];rfl
  ·have hE:applyE (.mk kd it tx xs ns) l=checkD l:=by rw [applyE,if_pos hz]
   rw [hE]
 ·
  have hz:checkD l=0:=by have hgo:=hc7;simpa using hgo
  have hcl:=checkD_len hz;refine WP.skip (hK4 _ (WP.seq fun K10 hK10=>?_));refine wr (uf th27 th3 hb2_3 ?_);refine ul th3 hb2_3 ?_;refine ub (um ?_);apply gF
  ·rfl
  ·intro hg;exact pg th27 hb2_3
  apply gF
  ·rfl
  ·intro hg;try simp only [hg,ct,Bt]
   refine o_pcall (s76 (.mk kd it tx xs ns)) rfl ⟨rfl,rfl,rfl⟩
  apply gF
  ·rfl
  ·intro hg;try simp only [hg,ct,Bt]
   exact pN
  refine uO ?_;refine u_nil ?_;refine wc (fun hc12=>?_) (fun hc12=>?_) <;> try simp only [Q0,Q1,Q2,Q3,Q4,Q5,Q6,Q7,Q8,ge_iff_le,gt_iff_lt] at hc12
  ·
   have hA:kd≠7∨mayV (.mk kd it tx xs ns)=false:=by have hgo:=hc12;simpa using hgo
   refine wr ?_;refine u_step (o_bu rfl th27 rfl rfl ?_);refine u_step0 (g_sta rfl rfl th27 rfl hb3 (by first | (simp;done) | (simp [D.leaves,D.width,valCells];done) | decide) fun o14 hb14 hk14=>?_);have hb2_14:=(hk14 _ (by omega)).trans hb2_3;refine ua (u_nil (WP.ret ?_));refine retC_ok (resis_agg rfl th27 rfl hb14 rfl rfl rfl) rfl ?_ ?_ (by omega) (fun t ht=>(hk14 t (by omega)).trans ((hk3 t (by omega)).trans ((hk2 t (by omega)))))
   ·have hE:applyE (.mk kd it tx xs ns) l=20:=by rw [applyE,if_neg (by simpa using hz)];exact if_pos hA
    rw [applyD,if_neg (by rw [hE];decide)];rfl
   ·have hE:applyE (.mk kd it tx xs ns) l=20:=by rw [applyE,if_neg (by simpa using hz)];exact if_pos hA
    rw [hE]
  ·
   have hA:¬ (kd≠7∨mayV (.mk kd it tx xs ns)=false):=by have hgo:=hc12;simpa using hgo
   have hap:applyE (.mk kd it tx xs ns) l=(appP l (.mk kd it tx xs ns)).2:=by rw [applyE,if_neg (by simpa using hz)];exact if_neg hA
   refine WP.skip (hK10 _ (wr (ug th27 hb2_3 ?_)));refine u_step (o_pcall (s77 (.mk kd it tx xs ns) (by omega)) rfl ?_);refine u_step0 (g_sta rfl rfl th27 rfl hb2_3 (by first | (simp;done) | (simp [D.leaves,D.width,valCells];done) | decide) fun o16 hb16 hk16=>?_);have hb3_16:=(hk16 _ (by omega)).trans hb3;refine u_nil (WP.seq fun K17 hK17=>?_);refine wr (um (un th28 ?_));refine um (u_nil (WP.block ?_));refine WP.loopL (ι:=Nat×Val×(Nat→Option AO)×Nat) (fun ⟨i,u,o2,nk2⟩=>⟨al [(2,.loc nk 0),(4,.loc (nk+1) 0),(28,.d (.sl 8 (l.map encD))),(29,.d (.int .i64 (l.map encD).length)),(30,.d (.int .i64 i))],o2,nk2⟩) (fun ⟨i,u,o2,nk2⟩=>i≤l.length∧nk+2≤nk2∧o2 nk=some (.box ((valCells u).map .d))∧o2 (nk+1)=some (.box [.d (.int .i64 0),.d (.int .i64 0),.d (.str []),.d .nil,.d .nil])∧(∀ t,t < nk→o2 t=o t)∧appP (l.drop i) u=appP l (.mk kd it tx xs ns)∧szV u≤274877906944+i * 8589934592) (fun ⟨i,u,o2,nk2⟩=>l.length - i) (fun ⟨i,u,o2,nk2⟩ hA=>?_) ⟨0,(.mk kd it tx xs ns),o16,((nk+1)+1)⟩ ?_ ?_
   ·
    obtain ⟨hle,hnk,hob,hzb,hfr,hap2,hsu⟩:=hA;refine wr ?_;refine ub ?_;refine u_nil ?_;refine WP.seq fun K20 hK20=>?_;refine wc (fun hc21=>?_) (fun hc21=>?_) <;> try simp only [Q0,Q1,Q2,Q3,Q4,Q5,Q6,Q7,Q8,ge_iff_le,gt_iff_lt] at hc21
    ·
     refine WP.skip (hK20 _ (WP.seq fun K22 hK22=>?_));refine WP.block ?_;have hil:i < l.length:=by have hgo:=hc21;first | omega | (rw [List.length_map] at hgo;omega) | (simp at hgo;omega) | (exact absurd hgo id)
     obtain ⟨d,hd⟩:∃ d,d=l[i]:=⟨_,rfl⟩;have hgd:(l.map encD)[((i:Nat):Int).toNat]?=some (encD d):=by rw [hd];simp [hil]
     refine wr ?_;refine u_step (o_ia_sl rfl rfl th28 rfl th83 rfl (Int.natCast_nonneg _) hgd ?_);refine uL th83 ?_;refine u_step (g_alloc th83 rfl fun o24 hb24 hk24=>?_);have hob_24:=(hk24 _ (by omega)).trans hob;have hzb_24:=(hk24 _ (by omega)).trans hzb;refine u_step0 (g_sta rfl rfl th83 rfl hb24 (by first | (simp;done) | (simp [D.leaves,D.width,valCells];done) | decide) fun o25 hb25 hk25=>?_);have hob_25:=(hk25 _ (by omega)).trans hob_24;have hzb_25:=(hk25 _ (by omega)).trans hzb_24;refine u_nil ?_;refine wr ?_;refine ug th27 hob_25 ?_;refine ug th83 hb25 ?_;refine u_step (o_pcall (s78c u d (by omega) (fun hm=>by have:=szV_do (d:=d) hm;have:=hds d (hd ▸ List.getElem_mem hil);omega)) rfl ?_);refine u_step (o_moveV (v:=.tup _) rfl ?_);refine ue ?_;refine ue ?_;refine u_step (g_alloc th27 rfl fun o27 hb27 hk27=>?_);have hob_27:=(hk27 _ (by omega)).trans hob_25;have hzb_27:=(hk27 _ (by omega)).trans hzb_25;have hb25_27:=(hk27 _ (by omega)).trans hb25;refine u_step0 (g_sta rfl (congrArg SV.d (encV_eq _)) th27 rfl hb27 (by simp [valCells]) fun o28 hb28 hk28=>?_);have hob_28:=(hk28 _ (by omega)).trans hob_27;have hzb_28:=(hk28 _ (by omega)).trans hzb_27;have hb25_28:=(hk28 _ (by omega)).trans hb25_27;refine ua ?_;refine u_nil ?_;refine WP.seq fun K29 hK29=>?_;refine wr ?_;refine um ?_;refine ub ?_;refine u_nil ?_;refine wc (fun hc31=>?_) (fun hc31=>?_) <;> try simp only [Q0,Q1,Q2,Q3,Q4,Q5,Q6,Q7,Q8,ge_iff_le,gt_iff_lt] at hc31
     ·
      have he:¬ doE u d=0:=by have hgo:=hc31;simpa using hgo
      refine wr ?_;refine u_step (o_bu rfl th27 rfl rfl ?_);refine um ?_;refine u_step0 (g_sta rfl rfl th27 rfl hzb_28 (by first | (simp;done) | (simp [D.leaves,D.width,valCells];done) | decide) fun o33 hb33 hk33=>?_);have hob_33:=(hk33 _ (by omega)).trans hob_28;have hb25_33:=(hk33 _ (by omega)).trans hb25_28;have hb28_33:=(hk33 _ (by omega)).trans hb28;refine ua (u_nil (WP.ret ?_));refine retC_ok (resis_agg rfl th27 rfl hb33 rfl rfl rfl) rfl ?_ ?_ (by omega) (fun t ht=>(hk33 t (by omega)).trans ((hk28 t (by omega)).trans ((hk27 t (by omega)).trans ((hk25 t (by omega)).trans ((hk24 t (by omega)).trans ((hfr t (by omega))))))))
      ·have hE:applyE (.mk kd it tx xs ns) l=doE u d:=by rw [hap,← hap2];exact appP_no hil hd he
       rw [applyD,if_neg (by rw [hE];exact he)];rfl
      ·have hE:applyE (.mk kd it tx xs ns) l=doE u d:=by rw [hap,← hap2];exact appP_no hil hd he
       rw [hE]
     ·
      have he:doE u d=0:=by have hgo:=hc31;simpa using hgo
      refine WP.skip (hK29 _ (WP.reg tabOk rfl ?_));refine ug th27 hb28 ?_;refine u_step0 (g_sta rfl rfl th27 rfl hob_28 (by first | (simp;done) | (simp [D.leaves,D.width,valCells];done) | decide) fun o34 hb34 hk34=>?_);have hzb_34:=(hk34 _ (by omega)).trans hzb_28;have hb25_34:=(hk34 _ (by omega)).trans hb25_28;have hb28_34:=(hk34 _ (by omega)).trans hb28;refine u_nil (hK22 _ (WP.reg tabOk rfl ?_));refine ub (um (u_nil ?_));have hdu:szV (doR u d)≤szV u+dS d:=by
       rw [doR,if_pos he];exact szV_do (doE_may he)
      have hdd:=hds d (hd ▸ List.getElem_mem hil);refine ⟨⟨i+1,doR u d,o34,((nk2+1)+1)⟩,⟨by omega,by omega,hb34,hzb_34,(fun t ht=>(hk34 t (by omega)).trans ((hk28 t (by omega)).trans ((hk27 t (by omega)).trans ((hk25 t (by omega)).trans ((hk24 t (by omega)).trans ((hfr t (by omega)))))))),(appP_ok hil hd he).symm.trans hap2,by omega⟩,by simp only;omega,?_⟩;refine Le.al ?_;simp only [List.forall_mem_cons];exact ⟨rfl,rfl,rfl,rfl,cnt (by omega),by simp⟩
    ·
     refine WP.exit ?_;refine hK17 _ (wr (ug th27 hob ?_));refine u_step0 (g_sta rfl rfl th27 rfl hzb (by first | (simp;done) | (simp [D.leaves,D.width,valCells];done) | decide) fun o36 hb36 hk36=>?_);have hob_36:=(hk36 _ (by omega)).trans hob;refine ua (u_nil (WP.ret ?_));refine retC_ok (resis_agg rfl th27 rfl hb36 rfl rfl rfl) rfl ?_ ?_ (by omega) (fun t ht=>(hk36 t (by omega)).trans ((hfr t (by omega))))
     ·have hie:i=l.length:=by have hgo:=hc21;simp at hgo;omega
      have hu:appP l (.mk kd it tx xs ns)=(u,0):=by rw [← hap2,List.drop_of_length_le (by omega)];rfl
      rw [applyD,if_pos (by rw [hap,hu]),hu];exact (encV_eq _).symm
     ·have hie:i=l.length:=by have hgo:=hc21;simp at hgo;omega
      have hu:appP l (.mk kd it tx xs ns)=(u,0):=by rw [← hap2,List.drop_of_length_le (by omega)];rfl
      rw [hap,hu]
   ·
    exact ⟨by omega,by omega,hb16,hb3_16,(fun t ht=>(hk16 t (by omega)).trans ((hk3 t (by omega)).trans ((hk2 t (by omega))))),rfl,by simpa using hsz⟩
   ·
    refine Le.al ?_;simp only [List.forall_mem_cons];exact ⟨rfl,rfl,rfl,rfl,rfl,by simp⟩
theorem fn28:FnOkC Tryz.prog 28 31 [.cell 2 27] (bodyOf Tryz.f28):=⟨Tryz.f28,Tryz.func28,by kernel_rfl,by decide,by kernel_rfl,by kernel_rfl⟩
theorem s28A (m:Nat):∀ v:Val,SizeOf.sizeOf v < m→szV v≤1099511627776→PSpec Tryz.prog 28 [.d (encV v)] (.d (encV v)):=by
 induction m with
 | zero=>intros;omega
 | succ m ih=>
  rintro ⟨kd,it,tx,xs,ns⟩ hv hsz;have hsz2:1+tx.length+szVs xs+szN ns≤1099511627776:=hsz;have hxl:=szVs_len xs;have hnl:=szN_len ns;have hln:=encVs_length xs;refine PSpec.ofC1 tabOk fn28 (by simp) fun o nk=>?_;refine wr ?_;refine u_step (g_box rfl fun o2 hb2 hk2=>?_);refine u_step (g_alloc th27 rfl fun o3 hb3 hk3=>?_);have hb2_3:=(hk3 _ (by omega)).trans hb2;refine u_nil (wr (ug th27 hb2_3 ?_));refine u_step (g_alloc th27 rfl fun o5 hb5 hk5=>?_);have hb2_5:=(hk5 _ (by omega)).trans hb2_3;have hb3_5:=(hk5 _ (by omega)).trans hb3;refine u_step0 (g_sta rfl rfl th27 rfl hb5 (by first | (simp;done) | (simp [D.leaves,D.width,valCells];done) | decide) fun o6 hb6 hk6=>?_);have hb2_6:=(hk6 _ (by omega)).trans hb2_5;have hb3_6:=(hk6 _ (by omega)).trans hb3_5;refine u_nil (wr ?_);refine u_step (g_bs0 th22 rfl th9 rfl rfl (by decide) fun o8 hb8 hk8=>?_);have hb2_8:=(hk8 _ (by omega)).trans hb2_6;have hb3_8:=(hk8 _ (by omega)).trans hb3_6;have hb6_8:=(hk8 _ (by omega)).trans hb6;refine uf th27 th22 hb2_8 ?_;refine ul th22 hb2_8 ?_;refine u_step (g_ap rfl rfl th22 rfl th9 rfl rfl (by decide) rfl hb8 (by simp only [List.length_nil,List.length_map];omega) (by simp only [List.length_nil,List.length_map];omega) fun o9 hb9 hk9=>?_);have hb2_9:=(hk9 _ (by omega) (by omega)).trans hb2_8;have hb3_9:=(hk9 _ (by omega) (by omega)).trans hb3_8;have hb6_9:=(hk9 _ (by omega) (by omega)).trans hb6_8;refine uf th27 th22 hb6_9 ?_;refine u_step0 (g_stV rfl rfl hb9 th22 rfl hb6_9 (by simp) fun o10 hb10 hk10=>?_);have hb2_10:=(hk10 _ (by omega)).trans hb2_9;have hb3_10:=(hk10 _ (by omega)).trans hb3_9;have hb9_10:=(hk10 _ (by omega)).trans hb9;refine u_nil (wr (uf th27 th25 hb10 ?_));refine u_step0 (g_st rfl rfl rfl th25 rfl hb10 (by simp) fun o12 hb12 hk12=>?_);have hb2_12:=(hk12 _ (by omega)).trans hb2_10;have hb3_12:=(hk12 _ (by omega)).trans hb3_10;have hb9_12:=(hk12 _ (by omega)).trans hb9_10;refine u_nil (WP.seq fun K13 hK13=>?_);refine wr (ua (u_nil (WP.block ?_)));refine WP.loopL (ι:=Nat×SV×Option Nat×(Nat→Option AO)×Nat) (fun ⟨i,c,q,o2,nk2⟩=>⟨al [(1,.loc nk 0),(2,.loc (nk+1) 0),(3,.loc ((nk+1)+1) 0),(4,.d (.int .i64 i))],o2,nk2⟩) (fun ⟨i,c,q,o2,nk2⟩=>i≤xs.length∧nk+5≤nk2∧o2 nk=some (.box [.d (.int .i64 kd),.d (.int .i64 it),.d (.str tx),.d (.sl 5 (encVs xs)),.d (.sl 1 (ns.map .str))])∧o2 (nk+1)=some (.box [.d (.int .i64 0),.d (.int .i64 0),.d (.str []),.d .nil,.d .nil])∧o2 ((nk+1)+1)=some (.box [.d (.int .i64 kd),.d (.int .i64 it),.d (.str tx),c,.row (nk+4)])∧o2 (nk+4)=some (.row 9 1 (ns.map .str))∧dstOf o2 27 5 c=some (q,encVs (xs.take i))∧(∀ t,q=some t→nk+5≤t∧t < nk2)∧∀ t,t < nk→o2 t=o t) (fun ⟨i,c,q,o2,nk2⟩=>xs.length - i) (fun ⟨i,c,q,o2,nk2⟩ hA=>?_) ⟨0,.d .nil,none,o12,(((((nk+1)+1)+1)+1)+1)⟩ ?_ ?_
  ·
   obtain ⟨hle,hnk,hob,hzb,hwb,hrN,hd,hq,hfr⟩:=hA;refine WP.seq fun K15 hK15=>?_;refine wr ?_;refine um ?_;refine uf th27 th25 hob ?_;refine ul th25 hob ?_;refine un th25 ?_;refine ub ?_;refine u_nil ?_;refine wc (fun hc17=>?_) (fun hc17=>?_) <;> try simp only [Q0,Q1,Q2,Q3,Q4,Q5,Q6,Q7,Q8,ge_iff_le,gt_iff_lt] at hc17
   ·
    refine WP.skip (hK15 _ (WP.seq fun K18 hK18=>?_));refine WP.block ?_;refine WP.dr2 [.q 0 0,.q 0 0,.q 0 0,.q 0 0,.q 0 0,.q 0 0,.q 0 0,.q 0 0,.q 0 0,.w 0,.q 1 1,.w 1] [9,11] (nk2+1) (nk2+1) tabOk (by kernel_rfl) rfl (by kernel_rfl) (by kernel_rfl) ?_;apply Exists.intro;apply Exists.intro;refine e_step rfl (o_fa_loc rfl th27 rfl rfl th25 (by decide) hwb ⟨rfl,rfl,rfl⟩) ?_;refine e_step rfl (o_ld_locV rfl th25 rfl hwb rfl ⟨rfl,rfl,rfl⟩) ?_;refine e_step rfl (o_fa_loc rfl th27 rfl rfl th25 (by decide) hob ⟨rfl,rfl,rfl⟩) ?_;refine e_step rfl (o_ld_loc rfl th25 rfl hob rfl ⟨rfl,rfl,rfl⟩) ?_;refine e_step rfl (o_move rfl ⟨rfl,rfl,rfl⟩) ?_
    first | refine e_step rfl (o_ia_map rfl rfl th25 rfl th27 rfl (by omega) ⟨rfl,rfl,rfl⟩) ?_ | refine e_step rfl (o_ia_vs rfl rfl th25 rfl th27 rfl (by omega) ⟨rfl,rfl,rfl⟩) ?_
    refine e_step rfl (o_ld_el rfl th27 (by first | rfl | simp only [encV_leaf,encV_width,Bool.not_true,TK.agg]) (by first | rfl | simp only [encV_leaf,encV_width,Bool.not_true,TK.agg]) ⟨rfl,rfl,rfl⟩) ?_;refine e_step rfl (o_pcall (ih _ (by exact items_lt' (by omega) hv) (by have:=szVs_get (xs:=xs) (j:=i) (by omega);omega)) rfl ⟨rfl,rfl,rfl⟩) ?_
    first | refine e_step rfl (o_bs rfl th25 rfl th27 rfl rfl (by decide) rfl (by decide) (by decide) ⟨rfl,rfl,rfl⟩) ?_ | refine e_step rfl (o_bs1 rfl (by simp only [encV_width]) th25 rfl th27 rfl rfl (by decide) (by decide) ⟨rfl,rfl,rfl⟩) ?_
    refine e_w rfl rfl (w_apD rfl th25 rfl th27 rfl rfl (by decide) rfl hd (by simp only [encVs_length,List.length_take,List.length_cons,List.length_nil];omega) (by simp only [encVs_length,List.length_take,List.length_cons,List.length_nil];omega) ⟨rfl,rfl,rfl⟩) ?_;refine e_step rfl (o_fa_loc rfl th27 rfl rfl th25 (by decide) (((upd_ne _ _ (by omega)).trans (killo_ne (fun e=>by have:=hq _ e;omega))).trans hwb) ⟨rfl,rfl,rfl⟩) ?_;refine e_w0 rfl rfl (w_stV rfl rfl (upd_same _ _ _) th25 rfl (((upd_ne _ _ (by omega)).trans (killo_ne (fun e=>by have:=hq _ e;omega))).trans hwb) (by simp) ⟨rfl,rfl,rfl⟩) ?_;refine e_nil rfl fun o21 ho21=>?_;have hbB_21:=(ho21 _).trans ((upd_ne _ _ (by omega)).trans (((upd_ne _ _ (by omega)).trans (killo_ne (fun e=>by have:=hq _ e;omega))).trans hob));have hbZ_21:=(ho21 _).trans ((upd_ne _ _ (by omega)).trans (((upd_ne _ _ (by omega)).trans (killo_ne (fun e=>by have:=hq _ e;omega))).trans hzb));have hbrN_21:=(ho21 _).trans ((upd_ne _ _ (by omega)).trans (((upd_ne _ _ (by omega)).trans (killo_ne (fun e=>by have:=hq _ e;omega))).trans hrN));have hbr19_21:=(ho21 _).trans ((upd_ne _ _ (by omega)).trans (upd_same _ _ _));have hbW_21:=(ho21 _).trans (upd_same _ _ _);have hk21:∀ t,t < nk→o21 t=o2 t:=fun t ht=>(ho21 t).trans ((upd_ne _ _ (by omega)).trans ((upd_ne _ _ (by omega)).trans (killo_ne (fun e=>by have:=hq _ e;omega))));refine hK18 _ (WP.reg tabOk rfl ?_);refine um (ub (ua (u_nil ?_)));refine ⟨⟨i+1,.row _,some _,o21,(nk2+1)⟩,⟨by omega,by omega,hbB_21,hbZ_21,hbW_21,hbrN_21,(encVs_snoc (xs:=xs) (i:=i) (by omega)) ▸ dst_row hbr19_21,fun t e=>by injection e with e;omega,(fun t ht=>(hk21 t (by omega)).trans ((hfr t (by omega))))⟩,by simp only;omega,?_⟩;refine Le.al ?_;simp only [List.forall_mem_cons];exact ⟨rfl,rfl,rfl,cnt (by omega),by simp⟩
   ·
    refine WP.exit ?_;refine hK13 _ ?_;have hF0:∀ t,t < nk→o2 t=o t:=(fun t ht=>(hfr t (by omega)));refine WP.frzC2 (pre:=[.d (.int .i64 kd),.d (.int .i64 it),.d (.str tx)]) (post:=[]) [(2,.loc (nk+1) 0),(3,.loc ((nk+1)+1) 0)] nk hwb hd (dst_row hrN) (fun t h1 h2=>by injection h2 with h2;have:=hq t h1;omega) (by omega) (fun t d=>⟨rfl,rfl⟩) (fun t d=>by simp only [List.forall_mem_cons];exact ⟨⟨rfl,rfl⟩,⟨rfl,rfl⟩,by simp⟩) (by simp only [List.forall_mem_cons];exact ⟨rfl,rfl,by simp⟩) (by simp only [List.forall_mem_cons];exact ⟨rfl,rfl,by simp⟩) fun o9 hB9 hk9 hm9=>?_;have hZ9:=hm9 _ _ (by omega) hzb fun t _=>rfl;have hF9:∀ t,t < nk→o9 t=o t:=fun t ht=>(hk9 t ht (fun e=>by have:=hq _ e;omega) (by simp;omega)).trans (hF0 t ht);refine wr (ug th27 hB9 ?_);refine u_step0 (g_sta rfl rfl th27 rfl hZ9 (by first | (simp;done) | (simp [D.leaves,D.width,valCells];done) | decide) fun o23 hb23 hk23=>?_);have hB9_23:=(hk23 _ (by omega)).trans hB9;refine u_nil (WP.ret ?_);refine retC1_ok (resis_agg rfl th27 rfl hb23 rfl rfl rfl) ?_ (by omega) (fun t ht=>(hk23 t (by omega)).trans ((hF9 t (by omega))));rw [List.take_of_length_le (by omega)];rfl
  ·
   refine ⟨by omega,by omega,hb2_12,hb3_12,hb12,by simpa using hb9_12,rfl,by simp,(fun t ht=>(hk12 t (by omega)).trans ((hk10 t (by omega)).trans ((hk9 t (by omega) (by omega)).trans ((hk8 t (by omega)).trans ((hk6 t (by omega)).trans ((hk5 t (by omega)).trans ((hk3 t (by omega)).trans ((hk2 t (by omega))))))))))⟩
  ·
   refine Le.al ?_;simp only [List.forall_mem_cons];exact ⟨rfl,rfl,rfl,rfl,by simp⟩
theorem s28 (v:Val) (hsz:szV v≤1099511627776):PSpec Tryz.prog 28 [.d (encV v)] (.d (encV v)):=s28A _ v (Nat.lt_succ_self _) hsz
theorem resis_agL {Θ:Tab} {sl:Nat→SV} {o:Nat→Option AO} {nk a t:Nat} {i:TI} {k g:Nat} {cs zs:List SV} (hx:sl a=.loc k g) (hi:Θ t=some i) (ha:i.k.agg=true) (ho:o k=some (.box cs)) (hc:(cs.drop g).take i.sz=zs) (hl:zs.length=i.sz) (hlf:zs.all (oneC o)=true):ResIs Θ ⟨sl,o,nk⟩ (.cell a t) (.ag zs):=by
 refine ⟨⟨k,g,hx⟩,i,hi,?_⟩;show (match sl a with | .loc k f=>_ | .el x=>_ | _=>False);rw [hx];refine ⟨cs,ho,?_⟩;rw [if_pos ha];exact .inr ⟨by rw [hc];exact hl,by rw [hc];exact hlf,by rw [hc]⟩
def CloneQ (v:Val) (o:Nat→Option AO) (nk:Nat):SV→(Nat→Option AO)→Nat→Prop:=fun r o1 nk1=>
 ∃ c q n2,r=.ag [.d (.int .i64 v.kind),.d (.int .i64 v.int),.d (.str v.text),c,.row n2]∧nk≤nk1∧dstOf o1 27 5 c=some (q,encVs v.items)∧(∀ t,q=some t→nk≤t∧t < nk1)∧nk≤n2∧n2 < nk1∧q≠some n2∧o1 n2=some (.row 9 1 (v.names.map .str))∧∀ t,t < nk→o1 t=o t
theorem o_ldA {P:Program} {Θ:Tab} {K:SV→(Nat→Option AO)→Nat→Prop} {sl:Nat→SV} {o:Nat→Option AO} {nk:Nat} {x:Operand} {t:Nat} {i:TI} {k g:Nat} {cs zs:List SV} (hx:ev sl x=.loc k g) (hi:Θ t=some i) (ha:i.k.agg=true) (ho:o k=some (.box cs)) (hc:(cs.drop g).take i.sz=zs) (hl:zs.length=i.sz) (hlf:zs.all (oneC o)=true) (h:K (.ag zs) o nk):vOp P Θ (.load t x) ⟨sl,o,nk⟩ K:=by
 refine Or.inl ?_;show ldOp Θ o t (ev sl x) (fun v=>K v o nk);rw [hx];refine ⟨i,hi,?_⟩;show ∃ cs,_∧_;refine ⟨cs,ho,?_⟩;rw [if_pos ha];exact .inr ⟨by rw [hc];exact hl,by rw [hc];exact hlf,by rw [hc];exact h⟩
theorem g_stA {P:Program} {Θ:Tab} {K:SV→(Nat→Option AO)→Nat→Prop} {sl:Nat→SV} {o:Nat→Option AO} {nk:Nat} {x y:Operand} {t:Nat} {i:TI} {k g:Nat} {cs zs:List SV} (hx:ev sl x=.loc k g) (hy:ev sl y=.ag zs) (hi:Θ t=some i) (hs:zs.length=i.sz) (ho:o k=some (.box cs)) (hle:g+zs.length≤cs.length) (h:∀ o1,o1 k=some (.box (cs.take g++zs++cs.drop (g+zs.length)))→(∀ u,u≠k→o1 u=o u)→K .any o1 nk):vOp P Θ (.store t x y) ⟨sl,o,nk⟩ K:=by
 refine Or.inl ?_;refine ⟨i,zs,hi,?_,hs,?_⟩
 ·show (ev sl y).cells o=_;rw [hy];rfl
 ·show (match ev sl x with | .loc k f=>_ | _=>False);rw [hx];exact ⟨cs,ho,hle,h _ (upd_same _ _ _) fun u hu=>upd_ne _ _ hu⟩
theorem one_dst {o:Nat→Option AO} {e z:Nat} {c:SV} {q:Option Nat} {xs:List D} (h:dstOf o e z c=some (q,xs)):oneC o c=true:=by
 rcases dst_two h with ⟨rfl,_,_⟩ | ⟨t,rfl,_,h2⟩
 ·rfl
 ·simp [oneC,h2]
theorem all_one {o:Nat→Option AO} {c:SV} {q:Option Nat} {xs ys:List D} {n2:Nat} {a b:Int} {t:Str} (h:dstOf o 27 5 c=some (q,xs)) (h2:o n2=some (.row 9 1 ys)):[SV.d (.int .i64 a),SV.d (.int .i64 b),SV.d (.str t),c,.row n2].all (oneC o)=true:=by
 simp only [List.all_cons,List.all_nil,one_dst h,Bool.and_true];simp [oneC,D.leaf,h2]
theorem s28L (v:Val) (o:Nat→Option AO) (nk:Nat) (hsz:szV v≤1099511627776):Spec Tryz.prog 28 [.d (encV v)] o nk (CloneQ v o nk):=by
 obtain ⟨kd,it,tx,xs,ns⟩:=v;have hsz2:1+tx.length+szVs xs+szN ns≤1099511627776:=hsz;have hxl:=szVs_len xs;have hnl:=szN_len ns;have hln:=encVs_length xs;refine Spec.of_bodyC tabOk fn28 (by simp) ?_;refine wr ?_;refine u_step (g_box rfl fun o2 hb2 hk2=>?_);refine u_step (g_alloc th27 rfl fun o3 hb3 hk3=>?_);have hb2_3:=(hk3 _ (by omega)).trans hb2;refine u_nil (wr (ug th27 hb2_3 ?_));refine u_step (g_alloc th27 rfl fun o5 hb5 hk5=>?_);have hb2_5:=(hk5 _ (by omega)).trans hb2_3;have hb3_5:=(hk5 _ (by omega)).trans hb3;refine u_step0 (g_sta rfl rfl th27 rfl hb5 (by first | (simp;done) | (simp [D.leaves,D.width,valCells];done) | decide) fun o6 hb6 hk6=>?_);have hb2_6:=(hk6 _ (by omega)).trans hb2_5;have hb3_6:=(hk6 _ (by omega)).trans hb3_5;refine u_nil (wr ?_);refine u_step (g_bs0 th22 rfl th9 rfl rfl (by decide) fun o8 hb8 hk8=>?_);have hb2_8:=(hk8 _ (by omega)).trans hb2_6;have hb3_8:=(hk8 _ (by omega)).trans hb3_6;have hb6_8:=(hk8 _ (by omega)).trans hb6;refine uf th27 th22 hb2_8 ?_;refine ul th22 hb2_8 ?_;refine u_step (g_ap rfl rfl th22 rfl th9 rfl rfl (by decide) rfl hb8 (by simp only [List.length_nil,List.length_map];omega) (by simp only [List.length_nil,List.length_map];omega) fun o9 hb9 hk9=>?_);have hb2_9:=(hk9 _ (by omega) (by omega)).trans hb2_8;have hb3_9:=(hk9 _ (by omega) (by omega)).trans hb3_8;have hb6_9:=(hk9 _ (by omega) (by omega)).trans hb6_8;refine uf th27 th22 hb6_9 ?_;refine u_step0 (g_stV rfl rfl hb9 th22 rfl hb6_9 (by simp) fun o10 hb10 hk10=>?_);have hb2_10:=(hk10 _ (by omega)).trans hb2_9;have hb3_10:=(hk10 _ (by omega)).trans hb3_9;have hb9_10:=(hk10 _ (by omega)).trans hb9;refine u_nil (wr (uf th27 th25 hb10 ?_));refine u_step0 (g_st rfl rfl rfl th25 rfl hb10 (by simp) fun o12 hb12 hk12=>?_);have hb2_12:=(hk12 _ (by omega)).trans hb2_10;have hb3_12:=(hk12 _ (by omega)).trans hb3_10;have hb9_12:=(hk12 _ (by omega)).trans hb9_10;refine u_nil (WP.seq fun K13 hK13=>?_);refine wr (ua (u_nil (WP.block ?_)));refine WP.loopL (ι:=Nat×SV×Option Nat×(Nat→Option AO)×Nat) (fun ⟨i,c,q,o2,nk2⟩=>⟨al [(1,.loc nk 0),(2,.loc (nk+1) 0),(3,.loc ((nk+1)+1) 0),(4,.d (.int .i64 i))],o2,nk2⟩) (fun ⟨i,c,q,o2,nk2⟩=>i≤xs.length∧nk+5≤nk2∧o2 nk=some (.box [.d (.int .i64 kd),.d (.int .i64 it),.d (.str tx),.d (.sl 5 (encVs xs)),.d (.sl 1 (ns.map .str))])∧o2 (nk+1)=some (.box [.d (.int .i64 0),.d (.int .i64 0),.d (.str []),.d .nil,.d .nil])∧o2 ((nk+1)+1)=some (.box [.d (.int .i64 kd),.d (.int .i64 it),.d (.str tx),c,.row (nk+4)])∧o2 (nk+4)=some (.row 9 1 (ns.map .str))∧dstOf o2 27 5 c=some (q,encVs (xs.take i))∧(∀ t,q=some t→nk+5≤t∧t < nk2)∧∀ t,t < nk→o2 t=o t) (fun ⟨i,c,q,o2,nk2⟩=>xs.length - i) (fun ⟨i,c,q,o2,nk2⟩ hA=>?_) ⟨0,.d .nil,none,o12,(((((nk+1)+1)+1)+1)+1)⟩ ?_ ?_
 ·
  obtain ⟨hle,hnk,hob,hzb,hwb,hrN,hd,hq,hfr⟩:=hA;refine WP.seq fun K15 hK15=>?_;refine wr ?_;refine um ?_;refine uf th27 th25 hob ?_;refine ul th25 hob ?_;refine un th25 ?_;refine ub ?_;refine u_nil ?_;refine wc (fun hc17=>?_) (fun hc17=>?_) <;> try simp only [Q0,Q1,Q2,Q3,Q4,Q5,Q6,Q7,Q8,ge_iff_le,gt_iff_lt] at hc17
  ·
   refine WP.skip (hK15 _ (WP.seq fun K18 hK18=>?_));refine WP.block ?_;refine WP.dr2 [.q 0 0,.q 0 0,.q 0 0,.q 0 0,.q 0 0,.q 0 0,.q 0 0,.q 0 0,.q 0 0,.w 0,.q 1 1,.w 1] [9,11] (nk2+1) (nk2+1) tabOk (by kernel_rfl) rfl (by kernel_rfl) (by kernel_rfl) ?_;apply Exists.intro;apply Exists.intro;refine e_step rfl (o_fa_loc rfl th27 rfl rfl th25 (by decide) hwb ⟨rfl,rfl,rfl⟩) ?_;refine e_step rfl (o_ld_locV rfl th25 rfl hwb rfl ⟨rfl,rfl,rfl⟩) ?_;refine e_step rfl (o_fa_loc rfl th27 rfl rfl th25 (by decide) hob ⟨rfl,rfl,rfl⟩) ?_;refine e_step rfl (o_ld_loc rfl th25 rfl hob rfl ⟨rfl,rfl,rfl⟩) ?_;refine e_step rfl (o_move rfl ⟨rfl,rfl,rfl⟩) ?_
   first | refine e_step rfl (o_ia_map rfl rfl th25 rfl th27 rfl (by omega) ⟨rfl,rfl,rfl⟩) ?_ | refine e_step rfl (o_ia_vs rfl rfl th25 rfl th27 rfl (by omega) ⟨rfl,rfl,rfl⟩) ?_
   refine e_step rfl (o_ld_el rfl th27 (by first | rfl | simp only [encV_leaf,encV_width,Bool.not_true,TK.agg]) (by first | rfl | simp only [encV_leaf,encV_width,Bool.not_true,TK.agg]) ⟨rfl,rfl,rfl⟩) ?_;refine e_step rfl (o_pcall (s28 xs[i] (by have:=szVs_get (xs:=xs) (j:=i) (by omega);omega)) rfl ⟨rfl,rfl,rfl⟩) ?_
   first | refine e_step rfl (o_bs rfl th25 rfl th27 rfl rfl (by decide) rfl (by decide) (by decide) ⟨rfl,rfl,rfl⟩) ?_ | refine e_step rfl (o_bs1 rfl (by simp only [encV_width]) th25 rfl th27 rfl rfl (by decide) (by decide) ⟨rfl,rfl,rfl⟩) ?_
   refine e_w rfl rfl (w_apD rfl th25 rfl th27 rfl rfl (by decide) rfl hd (by simp only [encVs_length,List.length_take,List.length_cons,List.length_nil];omega) (by simp only [encVs_length,List.length_take,List.length_cons,List.length_nil];omega) ⟨rfl,rfl,rfl⟩) ?_;refine e_step rfl (o_fa_loc rfl th27 rfl rfl th25 (by decide) (((upd_ne _ _ (by omega)).trans (killo_ne (fun e=>by have:=hq _ e;omega))).trans hwb) ⟨rfl,rfl,rfl⟩) ?_;refine e_w0 rfl rfl (w_stV rfl rfl (upd_same _ _ _) th25 rfl (((upd_ne _ _ (by omega)).trans (killo_ne (fun e=>by have:=hq _ e;omega))).trans hwb) (by simp) ⟨rfl,rfl,rfl⟩) ?_;refine e_nil rfl fun o21 ho21=>?_;have hbB_21:=(ho21 _).trans ((upd_ne _ _ (by omega)).trans (((upd_ne _ _ (by omega)).trans (killo_ne (fun e=>by have:=hq _ e;omega))).trans hob));have hbZ_21:=(ho21 _).trans ((upd_ne _ _ (by omega)).trans (((upd_ne _ _ (by omega)).trans (killo_ne (fun e=>by have:=hq _ e;omega))).trans hzb));have hbrN_21:=(ho21 _).trans ((upd_ne _ _ (by omega)).trans (((upd_ne _ _ (by omega)).trans (killo_ne (fun e=>by have:=hq _ e;omega))).trans hrN));have hbr19_21:=(ho21 _).trans ((upd_ne _ _ (by omega)).trans (upd_same _ _ _));have hbW_21:=(ho21 _).trans (upd_same _ _ _);have hk21:∀ t,t < nk→o21 t=o2 t:=fun t ht=>(ho21 t).trans ((upd_ne _ _ (by omega)).trans ((upd_ne _ _ (by omega)).trans (killo_ne (fun e=>by have:=hq _ e;omega))));refine hK18 _ (WP.reg tabOk rfl ?_);refine um (ub (ua (u_nil ?_)));refine ⟨⟨i+1,.row _,some _,o21,(nk2+1)⟩,⟨by omega,by omega,hbB_21,hbZ_21,hbW_21,hbrN_21,(encVs_snoc (xs:=xs) (i:=i) (by omega)) ▸ dst_row hbr19_21,fun t e=>by injection e with e;omega,(fun t ht=>(hk21 t (by omega)).trans ((hfr t (by omega))))⟩,by simp only;omega,?_⟩;refine Le.al ?_;simp only [List.forall_mem_cons];exact ⟨rfl,rfl,rfl,cnt (by omega),by simp⟩
  ·
   refine WP.exit ?_;refine hK13 _ (wr ?_);refine u_step (o_ldA (zs:=[.d (.int .i64 kd),.d (.int .i64 it),.d (.str tx),c,.row (nk+4)]) rfl th27 rfl hwb rfl rfl (all_one hd hrN) ?_);refine u_step0 (g_stA rfl rfl th27 rfl hzb (by simp) fun o23 hb23 hk23=>?_);have hob_23:=(hk23 _ (by omega)).trans hob;have hwb_23:=(hk23 _ (by omega)).trans hwb;have hrN_23:=(hk23 _ (by omega)).trans hrN;have hd_23:=dst_keep hd fun t e=>hk23 t (by have:=hq t e;omega);refine u_nil (WP.ret ?_);have hie:i=xs.length:=by omega
   refine ⟨[.ag [.d (.int .i64 kd),.d (.int .i64 it),.d (.str tx),c,.row (nk+4)]],⟨resis_agL rfl th27 rfl hb23 rfl rfl (all_one hd_23 hrN_23),trivial⟩,c,q,nk+4,rfl,by show nk≤nk2;omega,by have h9:=hd_23;rwa [List.take_of_length_le (by omega)] at h9,fun t e=>by have:=hq t e;exact ⟨by omega,by show t < nk2;omega⟩,by omega,by show nk+4 < nk2;omega,fun e=>by have:=hq _ e;omega,hrN_23,(fun t ht=>(hk23 t (by omega)).trans ((hfr t (by omega))))⟩
 ·
  refine ⟨by omega,by omega,hb2_12,hb3_12,hb12,by simpa using hb9_12,rfl,by simp,(fun t ht=>(hk12 t (by omega)).trans ((hk10 t (by omega)).trans ((hk9 t (by omega) (by omega)).trans ((hk8 t (by omega)).trans ((hk6 t (by omega)).trans ((hk5 t (by omega)).trans ((hk3 t (by omega)).trans ((hk2 t (by omega))))))))))⟩
 ·
  refine Le.al ?_;simp only [List.forall_mem_cons];exact ⟨rfl,rfl,rfl,rfl,by simp⟩
section
variable {P:Program} {Θ:Tab} {K:SV→(Nat→Option AO)→Nat→Prop} {sl:Nat→SV} {o:Nat→Option AO} {nk:Nat} {x y:Operand} {t e:Nat}
theorem g_kcall {g:FuncId} {asx:Array Operand} {ts:Array Nat} {us:List SV} {v:Val} (hs:Spec P g us o nk (CloneQ v o nk)) (ha:asx.toList.map (ev sl)=us)
    (h:∀ c q n2 o1 nk1,nk≤nk1→dstOf o1 27 5 c=some (q,encVs v.items)→(∀ t,q=some t→nk≤t∧t < nk1)→nk≤n2→n2 < nk1→q≠some n2→o1 n2=some (.row 9 1 (v.names.map .str))→(∀ t,t < nk→o1 t=o t)→K (.ag [.d (.int .i64 v.kind),.d (.int .i64 v.int),.d (.str v.text),c,.row n2]) o1 nk1):vOp P Θ (.call { callee:=.value (.func g),args:=asx,argTypes:=ts }) ⟨sl,o,nk⟩ K:=
  o_call hs ha (by rintro r o1 nk1 ⟨c,q,n2,rfl,h1,h2,h3,h4,h5,h6,h7,h8⟩;exact h c q n2 o1 nk1 h1 h2 h3 h4 h5 h6 h7 h8)
theorem o_len_dst {i:TI} {ee z:Nat} {q:Option Nat} {xs:List D} (hd:dstOf o ee z (ev sl x)=some (q,xs)) (hi:Θ t=some i) (hk:i.k=.slice e) (h:K (.d (.int .i64 xs.length)) o nk):vOp P Θ (.call { callee:=.builtin .len,args:=#[x],argTypes:=#[t] }) ⟨sl,o,nk⟩ K:=by
 rcases dst_two hd with ⟨h1,_,rfl⟩ | ⟨t2,h1,_,h2⟩
 ·exact o_len_nil h1 hi hk h
 ·exact o_len_row h1 hi hk h2 h
end
theorem dst_full {o:Nat→Option AO} {e z:Nat} {c:SV} {q:Option Nat} {xs:List D} (h:dstOf o e z c=some (q,xs)) (hx:xs≠[]):∃ t,c=.row t∧q=some t∧o t=some (.row e z xs):=by
 rcases dst_two h with ⟨_,_,rfl⟩ | h1
 ·exact absurd rfl hx
 ·exact h1
theorem fn135:FnOkC Tryz.prog 135 39 [.cell 8 27] (bodyOf Tryz.f135):=⟨Tryz.f135,Tryz.func135,by kernel_rfl,by decide,by kernel_rfl,by kernel_rfl⟩
theorem s135i (v:Val) (j:Nat) (s:Str) (x:Val) (hj:j < v.items.length) (hsz:szV v≤1099511627776):PSpec Tryz.prog 135 [.d (encV v),.d (.int .i64 (j:Int)),.d (.str s),.d (encV x)] (.d (encV (swapV v j x))):=by
 obtain ⟨kd,it,tx,xs,ns⟩:=v;obtain ⟨k2,i2,t2,xs2,ns2⟩:=x;have hsz2:1+tx.length+szVs xs+szN ns≤1099511627776:=hsz;have hxl:=szVs_len xs;have hnl:=szN_len ns;have hln:=encVs_length xs;have hj2:j < xs.length:=hj;have hgx:=item_agg hj2;refine PSpec.ofC1 tabOk fn135 (by simp) fun o nk=>?_;refine wr ?_;refine u_step (g_box rfl fun o2 hb2 hk2=>?_);refine u_step (g_box rfl fun o3 hb3 hk3=>?_);have hb2_3:=(hk3 _ (by omega)).trans hb2;refine u_step (g_alloc th27 rfl fun o4 hb4 hk4=>?_);have hb2_4:=(hk4 _ (by omega)).trans hb2_3;have hb3_4:=(hk4 _ (by omega)).trans hb3;refine u_nil (wr (ug th27 hb2_4 ?_));refine u_step (g_kcall (s28L (.mk kd it tx xs ns) _ _ hsz) rfl fun cc qq n2 o6 nk6 hn6 hd6 hq6 ha6 hb6 hne6 hr6 hk6=>?_);have hb2_6:=(hk6 _ (by omega)).trans hb2_4;have hb3_6:=(hk6 _ (by omega)).trans hb3_4;have hb4_6:=(hk6 _ (by omega)).trans hb4;refine u_step (g_alloc th27 rfl fun o7 hb7 hk7=>?_);have hb2_7:=(hk7 _ (by omega)).trans hb2_6;have hb3_7:=(hk7 _ (by omega)).trans hb3_6;have hb4_7:=(hk7 _ (by omega)).trans hb4_6;have hd6_7:=dst_keep hd6 fun t e=>hk7 t (by have:=hq6 t e;omega);have hr6_7:=(hk7 _ (by omega)).trans hr6;refine u_step0 (g_stA rfl rfl th27 rfl hb7 (by simp) fun o8 hb8 hk8=>?_);have hb2_8:=(hk8 _ (by omega)).trans hb2_7;have hb3_8:=(hk8 _ (by omega)).trans hb3_7;have hb4_8:=(hk8 _ (by omega)).trans hb4_7;have hd6_8:=dst_keep hd6_7 fun t e=>hk8 t (by have:=hq6 t e;omega);have hr6_8:=(hk8 _ (by omega)).trans hr6_7;refine u_nil (WP.seq fun K9 hK9=>?_);have hV:=hb2_8;have hX:=hb3_8;have hZ:=hb4_8;have hW:o8 nk6=some (.box [.d (.int .i64 kd),.d (.int .i64 it),.d (.str tx),cc,.row n2]):=hb8;have hdC:dstOf o8 27 5 cc=some (qq,encVs xs):=hd6_8;have hqC:∀ t,qq=some t→nk+3≤t∧t < nk6∧t≠n2:=fun t e=>by have h1:=hq6 t e;have h2:t≠n2:=fun e2=>hne6 (by rw [e,e2]);omega
 have hrN:o8 n2=some (.row 9 1 (ns.map .str)):=hr6_8;refine wr (um (uf th27 th25 hW ?_));refine u_step (o_ld_locV rfl th25 rfl hW rfl ?_);refine u_step (o_len_dst hdC th25 rfl ?_);refine ub (u_nil ?_);refine wc (fun hc11=>?_) (fun hc11=>?_)
 ·
  simp at hc11;have hqq:=hqC;obtain ⟨t0,rfl,rfl,hrI⟩:=dst_full hdC (by intro e;rw [e] at hln;simp at hln;omega);have hqt:=hqq t0 rfl;have hnt:n2≠t0:=fun e=>hne6 (by rw [e]);refine wr (uf th27 th25 hW ?_);refine u_step (o_ld_locV rfl th25 rfl hW rfl ?_);refine um (ug th27 hX ?_);refine u_step (o_ia_rowR rfl rfl th25 rfl th27 rfl hrI (by omega) ?_);refine u_step0 (g_stRel rfl rfl th27 hrI hgx rfl rfl rfl fun o13 hb13 hk13=>?_);have hV_13:=(hk13 _ (by omega)).trans hV;have hX_13:=(hk13 _ (by omega)).trans hX;have hZ_13:=(hk13 _ (by omega)).trans hZ;have hW_13:=(hk13 _ (by omega)).trans hW;have hrN_13:=(hk13 _ (by omega)).trans hrN;refine u_nil ?_;have hF0:∀ t,t < nk→o13 t=o t:=(fun t ht=>(hk13 t (by omega)).trans ((hk8 t (by omega)).trans ((hk7 t (by omega)).trans ((hk6 t (by omega)).trans ((hk4 t (by omega)).trans ((hk3 t (by omega)).trans ((hk2 t (by omega)))))))));refine WP.frzC2 (pre:=[.d (.int .i64 kd),.d (.int .i64 it),.d (.str tx)]) (post:=[]) [(8,.loc (nk+1+1) 0),(9,.loc nk6 0)] nk hW_13 (dst_row hb13) (dst_row hrN_13) (fun t h1 h2=>by injection h1 with h1;injection h2 with h2;omega) (by omega) (fun t d=>⟨rfl,rfl⟩) (fun t d=>by simp only [List.forall_mem_cons];exact ⟨⟨rfl,rfl⟩,⟨rfl,rfl⟩,by simp⟩) (by simp only [List.forall_mem_cons];exact ⟨rfl,rfl,by simp⟩) (by simp only [List.forall_mem_cons];exact ⟨rfl,rfl,by simp⟩) fun o9 hB9 hk9 hm9=>?_;have hZ9:=hm9 _ _ (by omega) hZ_13 fun t _=>rfl;have hF9:∀ t,t < nk→o9 t=o t:=fun t ht=>(hk9 t ht (by simp;omega) (by simp;omega)).trans (hF0 t ht);refine wr (ug th27 hB9 ?_);refine u_step0 (g_sta rfl rfl th27 rfl hZ9 (by first | (simp;done) | (simp [D.leaves,D.width,valCells];done) | decide) fun o15 hb15 hk15=>?_);have hB9_15:=(hk15 _ (by omega)).trans hB9;refine u_nil (WP.ret ?_);refine retC1_ok (resis_agg rfl th27 rfl hb15 rfl rfl rfl) ?_ (by omega) (fun t ht=>(hk15 t (by omega)).trans ((hF9 t (by omega))));exact swapV_eq (i:=it) (t:=tx) (xs:=xs) (ns:=ns) (x:=(.mk k2 i2 t2 xs2 ns2))
 ·
  simp at hc11;exfalso;omega
theorem s135o (v:Val) (s:Str) (x:Val) (hsz:szV v≤1099511627776):PSpec Tryz.prog 135 [.d (encV v),.d (.int .i64 (v.items.length:Int)),.d (.str s),.d (encV x)] (.d (encV (growV v s x))):=by
 obtain ⟨kd,it,tx,xs,ns⟩:=v;obtain ⟨k2,i2,t2,xs2,ns2⟩:=x;have hsz2:1+tx.length+szVs xs+szN ns≤1099511627776:=hsz;have hxl:=szVs_len xs;have hnl:=szN_len ns;have hln:=encVs_length xs;refine PSpec.ofC1 tabOk fn135 (by simp) fun o nk=>?_;refine wr ?_;refine u_step (g_box rfl fun o2 hb2 hk2=>?_);refine u_step (g_box rfl fun o3 hb3 hk3=>?_);have hb2_3:=(hk3 _ (by omega)).trans hb2;refine u_step (g_alloc th27 rfl fun o4 hb4 hk4=>?_);have hb2_4:=(hk4 _ (by omega)).trans hb2_3;have hb3_4:=(hk4 _ (by omega)).trans hb3;refine u_nil (wr (ug th27 hb2_4 ?_));refine u_step (g_kcall (s28L (.mk kd it tx xs ns) _ _ hsz) rfl fun cc qq n2 o6 nk6 hn6 hd6 hq6 ha6 hb6 hne6 hr6 hk6=>?_);have hb2_6:=(hk6 _ (by omega)).trans hb2_4;have hb3_6:=(hk6 _ (by omega)).trans hb3_4;have hb4_6:=(hk6 _ (by omega)).trans hb4;refine u_step (g_alloc th27 rfl fun o7 hb7 hk7=>?_);have hb2_7:=(hk7 _ (by omega)).trans hb2_6;have hb3_7:=(hk7 _ (by omega)).trans hb3_6;have hb4_7:=(hk7 _ (by omega)).trans hb4_6;have hd6_7:=dst_keep hd6 fun t e=>hk7 t (by have:=hq6 t e;omega);have hr6_7:=(hk7 _ (by omega)).trans hr6;refine u_step0 (g_stA rfl rfl th27 rfl hb7 (by simp) fun o8 hb8 hk8=>?_);have hb2_8:=(hk8 _ (by omega)).trans hb2_7;have hb3_8:=(hk8 _ (by omega)).trans hb3_7;have hb4_8:=(hk8 _ (by omega)).trans hb4_7;have hd6_8:=dst_keep hd6_7 fun t e=>hk8 t (by have:=hq6 t e;omega);have hr6_8:=(hk8 _ (by omega)).trans hr6_7;refine u_nil (WP.seq fun K9 hK9=>?_);have hV:=hb2_8;have hX:=hb3_8;have hZ:=hb4_8;have hW:o8 nk6=some (.box [.d (.int .i64 kd),.d (.int .i64 it),.d (.str tx),cc,.row n2]):=hb8;have hdC:dstOf o8 27 5 cc=some (qq,encVs xs):=hd6_8;have hqC:∀ t,qq=some t→nk+3≤t∧t < nk6∧t≠n2:=fun t e=>by have h1:=hq6 t e;have h2:t≠n2:=fun e2=>hne6 (by rw [e,e2]);omega
 have hrN:o8 n2=some (.row 9 1 (ns.map .str)):=hr6_8;refine wr (um (uf th27 th25 hW ?_));refine u_step (o_ld_locV rfl th25 rfl hW rfl ?_);refine u_step (o_len_dst hdC th25 rfl ?_);refine ub (u_nil ?_);refine wc (fun hc11=>?_) (fun hc11=>?_)
 ·
  simp at hc11;exfalso;simp only [Val.items] at hc11;omega
 ·
  simp at hc11;refine WP.skip (hK9 _ (wr (uf th27 th25 hW ?_)));refine u_step (o_ld_locV rfl th25 rfl hW rfl ?_);refine ug th27 hX ?_
  first | refine u_step (o_bs rfl th25 rfl th27 rfl rfl (by decide) rfl (by decide) (by decide) ?_) | refine u_step (o_bs1 rfl (by simp only [encV_width]) th25 rfl th27 rfl rfl (by decide) (by decide) ?_)
  refine u_step (g_apD2 rfl th25 rfl th27 rfl rfl (by decide) rfl hdC (by simp only [hln,List.length_cons,List.length_nil];omega) (by simp only [hln,List.length_cons,List.length_nil];omega) fun o13 hb13 hk13=>?_);have hV_13:=(hk13 _ (by omega) (fun e=>by have:=hqC _ e.symm;omega)).trans hV;have hX_13:=(hk13 _ (by omega) (fun e=>by have:=hqC _ e.symm;omega)).trans hX;have hZ_13:=(hk13 _ (by omega) (fun e=>by have:=hqC _ e.symm;omega)).trans hZ;have hW_13:=(hk13 _ (by omega) (fun e=>by have:=hqC _ e.symm;omega)).trans hW;have hrN_13:=(hk13 _ (by omega) (fun e=>by have:=hqC _ e.symm;omega)).trans hrN;refine uf th27 th25 hW_13 ?_;refine u_step0 (g_stV rfl rfl hb13 th25 rfl hW_13 (by simp) fun o14 hb14 hk14=>?_);have hV_14:=(hk14 _ (by omega)).trans hV_13;have hX_14:=(hk14 _ (by omega)).trans hX_13;have hZ_14:=(hk14 _ (by omega)).trans hZ_13;have hrN_14:=(hk14 _ (by omega)).trans hrN_13;have hb13_14:=(hk14 _ (by omega)).trans hb13;refine u_nil (WP.seq fun K15 hK15=>?_);refine wr (uf th27 th3 hV_14 ?_);refine ul th3 hV_14 ?_;refine ub (u_nil ?_);refine wc (fun hc17=>?_) (fun hc17=>?_)
  ·
   simp at hc17;refine WP.reg tabOk rfl ?_;refine uf th27 th22 hb14 ?_;refine u_step (o_ld_locV rfl th22 rfl hb14 rfl ?_);refine um ?_;refine u_step (o_bs rfl th22 rfl th9 rfl rfl (by decide) rfl (by decide) (by decide) ?_);refine u_step (g_ap rfl rfl th22 rfl th9 rfl rfl (by decide) rfl hrN_14 (by simp only [List.length_map,List.length_cons,List.length_nil];omega) (by simp only [List.length_map,List.length_cons,List.length_nil];omega) fun o18 hb18 hk18=>?_);have hV_18:=(hk18 _ (by omega) (by omega)).trans hV_14;have hX_18:=(hk18 _ (by omega) (by omega)).trans hX_14;have hZ_18:=(hk18 _ (by omega) (by omega)).trans hZ_14;have hb13_18:=(hk18 _ (by omega) (by omega)).trans hb13_14;have hb14_18:=(hk18 _ (by omega) (by omega)).trans hb14;refine uf th27 th22 hb14_18 ?_;refine u_step0 (g_stV rfl rfl hb18 th22 rfl hb14_18 (by simp) fun o19 hb19 hk19=>?_);have hV_19:=(hk19 _ (by omega)).trans hV_18;have hX_19:=(hk19 _ (by omega)).trans hX_18;have hZ_19:=(hk19 _ (by omega)).trans hZ_18;have hb13_19:=(hk19 _ (by omega)).trans hb13_18;have hb18_19:=(hk19 _ (by omega)).trans hb18;refine u_nil (hK15 _ ?_);have hF0:∀ t,t < nk→o19 t=o t:=(fun t ht=>(hk19 t (by omega)).trans ((hk18 t (by omega) (by omega)).trans ((hk14 t (by omega)).trans ((hk13 t (by omega) (fun e=>by have:=hqC _ e.symm;omega)).trans ((hk8 t (by omega)).trans ((hk7 t (by omega)).trans ((hk6 t (by omega)).trans ((hk4 t (by omega)).trans ((hk3 t (by omega)).trans ((hk2 t (by omega))))))))))));refine WP.frzC2 (pre:=[.d (.int .i64 kd),.d (.int .i64 it),.d (.str tx)]) (post:=[]) [(8,.loc (nk+1+1) 0),(9,.loc nk6 0)] nk hb19 (dst_row hb13_19) (dst_row hb18_19) (fun t h1 h2=>by injection h1 with h1;injection h2 with h2;omega) (by omega) (fun t d=>⟨rfl,rfl⟩) (fun t d=>by simp only [List.forall_mem_cons];exact ⟨⟨rfl,rfl⟩,⟨rfl,rfl⟩,by simp⟩) (by simp only [List.forall_mem_cons];exact ⟨rfl,rfl,by simp⟩) (by simp only [List.forall_mem_cons];exact ⟨rfl,rfl,by simp⟩) fun o9 hB9 hk9 hm9=>?_;have hZ9:=hm9 _ _ (by omega) hZ_19 fun t _=>rfl;have hF9:∀ t,t < nk→o9 t=o t:=fun t ht=>(hk9 t ht (by simp;omega) (by simp;omega)).trans (hF0 t ht);refine wr (ug th27 hB9 ?_);refine u_step0 (g_sta rfl rfl th27 rfl hZ9 (by first | (simp;done) | (simp [D.leaves,D.width,valCells];done) | decide) fun o21 hb21 hk21=>?_);have hB9_21:=(hk21 _ (by omega)).trans hB9;refine u_nil (WP.ret ?_);refine retC1_ok (resis_agg rfl th27 rfl hb21 rfl rfl rfl) ?_ (by omega) (fun t ht=>(hk21 t (by omega)).trans ((hF9 t (by omega))));exact growV_yes (i:=it) (t:=tx) (xs:=xs) (ns:=ns) (s:=s) (x:=(.mk k2 i2 t2 xs2 ns2)) hc17
  ·
   simp at hc17;refine WP.skip (hK15 _ ?_);have hF0:∀ t,t < nk→o14 t=o t:=(fun t ht=>(hk14 t (by omega)).trans ((hk13 t (by omega) (fun e=>by have:=hqC _ e.symm;omega)).trans ((hk8 t (by omega)).trans ((hk7 t (by omega)).trans ((hk6 t (by omega)).trans ((hk4 t (by omega)).trans ((hk3 t (by omega)).trans ((hk2 t (by omega))))))))));refine WP.frzC2 (pre:=[.d (.int .i64 kd),.d (.int .i64 it),.d (.str tx)]) (post:=[]) [(8,.loc (nk+1+1) 0),(9,.loc nk6 0)] nk hb14 (dst_row hb13_14) (dst_row hrN_14) (fun t h1 h2=>by injection h1 with h1;injection h2 with h2;omega) (by omega) (fun t d=>⟨rfl,rfl⟩) (fun t d=>by simp only [List.forall_mem_cons];exact ⟨⟨rfl,rfl⟩,⟨rfl,rfl⟩,by simp⟩) (by simp only [List.forall_mem_cons];exact ⟨rfl,rfl,by simp⟩) (by simp only [List.forall_mem_cons];exact ⟨rfl,rfl,by simp⟩) fun o9 hB9 hk9 hm9=>?_;have hZ9:=hm9 _ _ (by omega) hZ_14 fun t _=>rfl;have hF9:∀ t,t < nk→o9 t=o t:=fun t ht=>(hk9 t ht (by simp;omega) (by simp;omega)).trans (hF0 t ht);refine wr (ug th27 hB9 ?_);refine u_step0 (g_sta rfl rfl th27 rfl hZ9 (by first | (simp;done) | (simp [D.leaves,D.width,valCells];done) | decide) fun o23 hb23 hk23=>?_);have hB9_23:=(hk23 _ (by omega)).trans hB9;refine u_nil (WP.ret ?_);refine retC1_ok (resis_agg rfl th27 rfl hb23 rfl rfl rfl) ?_ (by omega) (fun t ht=>(hk23 t (by omega)).trans ((hF9 t (by omega))));exact growV_no (i:=it) (t:=tx) (xs:=xs) (ns:=ns) (s:=s) (x:=(.mk k2 i2 t2 xs2 ns2)) hc17
def setR:Val→List Str→Val→Val×Bool
 | v,[],x=>(x,true)
 | v,s :: p,x=>
  if placeV v s < 0 then
   (if v.kind=7 then (growV v s (setR (.mk 7 0 [] [] []) p x).1,(setR (.mk 7 0 [] [] []) p x).2)
   else if v.kind=6∧p=[]∧stepI s=(v.items.length:Int) then (growV v [] x,true) else (v,false))
  else (swapV v (placeV v s).toNat (setR (v.items.getD (placeV v s).toNat v) p x).1,(setR (v.items.getD (placeV v s).toNat v) p x).2)
theorem setR_in {v:Val} {s:Str} {p:List Str} {x y:Val} (h:¬ placeV v s < 0) (hy:v.items[(placeV v s).toNat]?=some y):setR v (s :: p) x=(swapV v (placeV v s).toNat (setR y p x).1,(setR y p x).2):=by
 rw [setR,if_neg h,List.getD_eq_getElem?_getD,hy];rfl
theorem setR_doc {v:Val} {s:Str} {p:List Str} {x:Val} (h:placeV v s < 0) (h7:v.kind=7):setR v (s :: p) x=(growV v s (setR (.mk 7 0 [] [] []) p x).1,(setR (.mk 7 0 [] [] []) p x).2):=by
 rw [setR,if_pos h,if_pos h7]
theorem setR_arr {v:Val} {s:Str} {p:List Str} {x:Val} (h:placeV v s < 0) (h7:¬ v.kind=7) (h6:v.kind=6∧p=[]∧stepI s=(v.items.length:Int)):setR v (s :: p) x=(growV v [] x,true):=by
 rw [setR,if_pos h,if_neg h7,if_pos h6]
theorem setR_no {v:Val} {s:Str} {p:List Str} {x:Val} (h:placeV v s < 0) (h7:¬ v.kind=7) (h6:¬ (v.kind=6∧p=[]∧stepI s=(v.items.length:Int))):setR v (s :: p) x=(v,false):=by
 rw [setR,if_pos h,if_neg h7,if_neg h6]
theorem s135ic (v:Val) (i:Int) (s:Str) (x:Val) (h0:0≤i) (hj:i.toNat < v.items.length) (hsz:szV v≤1099511627776):PSpec Tryz.prog 135 [.d (encV v),.d (.int .i64 i),.d (.str s),.d (.agg (valCells x))] (.d (encV (swapV v i.toNat x))):=by
 have h:=s135i v i.toNat s x hj hsz;rw [Int.toNat_of_nonneg h0,encV_eq x] at h;exact h
theorem s135oc (v:Val) (n:Nat) (hn:n=v.items.length) (s:Str) (x:Val) (hsz:szV v≤1099511627776):PSpec Tryz.prog 135 [.d (encV v),.d (.int .i64 (n:Int)),.d (.str s),.d (.agg (valCells x))] (.d (encV (growV v s x))):=by
 have h:=s135o v s x hsz;rw [← hn,encV_eq x] at h;exact h
theorem doc0_le:SV.le (.d (.agg [.int .i64 7,.int .i64 0,.str [],.nil,.nil])) (.d (encV (.mk 7 0 [] [] []))):=by simp [SV.le,D.le,D.les,encV,encVs]
theorem fn81:FnOkC Tryz.prog 81 83 [.cell 6 27,.tmp 7] (bodyOf Tryz.f81):=⟨Tryz.f81,Tryz.func81,by kernel_rfl,by decide,by kernel_rfl,by kernel_rfl⟩
theorem s81A (m:Nat):∀ (p:List Str) (v x:Val),p.length < m→mayV v=true→szV v≤1099511627776→PSpec Tryz.prog 81 [.d (encV v),.d (.sl 1 (p.map .str)),.d (encV x)] (.tup (([encV (setR v p x).1,.bool (setR v p x).2]).map .d)):=by
 induction m with
 | zero=>intros;omega
 | succ m ih=>
  rintro p ⟨kd,it,tx,xs,ns⟩ ⟨k2,i2,t2,xs2,ns2⟩ hp hmy hsz;refine PSpec.of2C tabOk fn81 (by simp) fun o nk=>?_;refine wr ?_;refine u_step (g_box rfl fun o2 hb2 hk2=>?_);refine u_step (g_box rfl fun o3 hb3 hk3=>?_);have hb2_3:=(hk3 _ (by omega)).trans hb2;refine u_step (g_alloc th27 rfl fun o4 hb4 hk4=>?_);have hb2_4:=(hk4 _ (by omega)).trans hb2_3;have hb3_4:=(hk4 _ (by omega)).trans hb3;refine ua (u_nil (WP.seq fun K5 hK5=>?_));refine wr (um (un th22 ?_));refine ub (u_nil ?_);refine wc (fun hc7=>?_) (fun hc7=>?_)
  ·
   simp at hc7;refine wr (ug th27 hb3_4 ?_);refine u_step0 (g_sta rfl rfl th27 rfl hb4 (by first | (simp;done) | (simp [D.leaves,D.width,valCells];done) | decide) fun o9 hb9 hk9=>?_);have hb2_9:=(hk9 _ (by omega)).trans hb2_4;have hb3_9:=(hk9 _ (by omega)).trans hb3_4;refine ua (u_nil (WP.ret ?_));refine retC_ok (resis_agg rfl th27 rfl hb9 rfl rfl rfl) rfl ?_ ?_ (by omega) (fun t ht=>(hk9 t (by omega)).trans ((hk4 t (by omega)).trans ((hk3 t (by omega)).trans ((hk2 t (by omega))))))
   ·have hp0:p=[]:=by simpa using hc7
    subst hp0;first | rfl | exact (encV_eq _).symm
   ·have hp0:p=[]:=by simpa using hc7
    subst hp0;rfl
  ·
   simp at hc7;obtain ⟨s,p,rfl⟩:∃ s q,p=s :: q:=by cases p with
    | nil=>simp at hc7
    | cons s q=>exact ⟨s,q,rfl⟩
   have hp2:p.length < m:=by simp at hp;omega
   refine WP.skip (hK5 _ (wd ?_));refine dg th27 hb2_4 ?_;refine dm ?_;refine d_step (o_ia_sl rfl rfl th22 rfl th9 rfl (by decide) rfl ⟨rfl,rfl,rfl⟩) ?_;refine dL th9 ?_;refine d_step (o_pcall (s115 (.mk kd it tx xs ns) s) rfl ⟨rfl,rfl,rfl⟩) ?_;refine da ?_;refine d_nil ?_;refine WP.seq fun K11 hK11=>?_;refine wr (um (ub (u_nil ?_)));refine wc (fun hc13=>?_) (fun hc13=>?_)
   ·
    simp at hc13;have h0:placeV (.mk kd it tx xs ns) s < 0:=hc13;refine wr (uf th27 th25 hb2_4 ?_);refine ul th25 hb2_4 ?_;refine un th25 ?_;refine ua (u_nil (WP.seq fun K15 hK15=>?_));refine wr (uf th27 th3 hb2_4 ?_);refine ul th3 hb2_4 ?_;refine u_nil (WP.block (wr (ub (ua (u_nil ?_)))));refine wc (fun hc18=>?_) (fun hc18=>?_)
    ·
     simp at hc18;refine WP.seq fun K19 hK19=>?_;refine WP.dr2 [.q 0 1,.q 0 1,.q 0 1,.q 0 1,.q 0 1,.q 0 1,.q 0 1,.q 0 2,.w 0,.w 1,.q 2 2] [8,9] ((((nk+1)+1)+1)+1) ((((nk+1)+1)+1)+1) tabOk (by kernel_rfl) rfl (by kernel_rfl) (by kernel_rfl) ?_;apply Exists.intro;apply Exists.intro;refine e_step2 rfl rfl (o_bu rfl th27 rfl rfl ⟨rfl,rfl,rfl⟩) ?_ ?_;rotate_left;refine e_step2 rfl rfl (o_move rfl ⟨rfl,rfl,rfl⟩) ?_ ?_;rotate_left;refine e_step2 rfl rfl (o_sl_tl rfl rfl th22 rfl th9 rfl ⟨rfl,rfl,rfl⟩) ?_ ?_;rotate_left;refine e_step2 rfl rfl (o_ld_agg rfl th27 rfl hb3_4 rfl rfl rfl ⟨rfl,rfl,rfl⟩) ?_ ?_;rotate_left;refine e_step2 rfl rfl (o_pcall ((ih p (.mk 7 0 [] [] []) (.mk k2 i2 t2 xs2 ns2) hp2 (by decide) (by decide)).le (args:=[.d (.agg [.int .i64 7,.int .i64 0,.str [],.nil,.nil]),.d (.sl 1 (p.map .str)),.d (encV (.mk k2 i2 t2 xs2 ns2))]) ⟨doc0_le,D.le_refl _,D.le_refl _,trivial⟩) rfl ⟨rfl,rfl,rfl⟩) ?_ ?_;rotate_left;refine e_step2 rfl rfl (o_moveV (v:=.tup _) rfl ⟨rfl,rfl,rfl⟩) ?_ ?_;rotate_left;refine e_step2 rfl rfl (o_ext rfl rfl ⟨rfl,rfl,rfl⟩) ?_ ?_;rotate_left;refine e_step3 rfl rfl rfl (o_ext rfl rfl ⟨rfl,rfl,rfl⟩) ?_ ?_ ?_;rotate_left 2;refine e_w rfl rfl (o_alloc th27 rfl ⟨rfl,rfl,rfl⟩) ?_;refine e_w0 rfl rfl (o_st_agg rfl (congrArg SV.d (encV_eq _)) th27 rfl (upd_same _ _ _) (by simp [valCells]) ⟨rfl,rfl,rfl⟩) ?_;refine e_step rfl (o_assign rfl ⟨rfl,rfl,rfl⟩) ?_;refine e_nil rfl fun o22 ho22=>?_;have hbb2_22:=(ho22 _).trans ((upd_ne _ _ (by omega)).trans ((upd_ne _ _ (by omega)).trans hb2_4));have hbb3_22:=(ho22 _).trans ((upd_ne _ _ (by omega)).trans ((upd_ne _ _ (by omega)).trans hb3_4));have hbb4_22:=(ho22 _).trans ((upd_ne _ _ (by omega)).trans ((upd_ne _ _ (by omega)).trans hb4));have hbb20_22:=(ho22 _).trans (upd_same _ _ _);have hk22:∀ t,t < nk→o22 t=o4 t:=fun t ht=>(ho22 t).trans ((upd_ne _ _ (by omega)).trans (upd_ne _ _ (by omega)))
     ·
      refine hK19 _ (WP.seq fun K23 hK23=>?_);refine WP.dr1 [.q 0 0,.q 0 0,.q 0 0,.q 0 0,.q 0 0,.q 0 0,.q 0 0,.q 0 1,.w 0,.q 1 1] [8] ((((nk+1)+1)+1)+1) tabOk (by kernel_rfl) rfl (by kernel_rfl) (by kernel_rfl) ?_;apply Exists.intro;refine e_step rfl (o_ld_agg rfl th27 rfl hbb2_22 rfl rfl rfl ⟨rfl,rfl,rfl⟩) ?_;refine e_step rfl (o_move rfl ⟨rfl,rfl,rfl⟩) ?_;refine e_step rfl (o_move rfl ⟨rfl,rfl,rfl⟩) ?_;refine e_step rfl (o_ia_sl rfl rfl th22 rfl th9 rfl (by decide) rfl ⟨rfl,rfl,rfl⟩) ?_;refine e_step rfl (o_ld_el rfl th9 (by first | rfl | simp only [encV_leaf,encV_width,Bool.not_true,TK.agg]) (by first | rfl | simp only [encV_leaf,encV_width,Bool.not_true,TK.agg]) ⟨rfl,rfl,rfl⟩) ?_;refine e_step rfl (o_ld_agg rfl th27 rfl hbb20_22 rfl rfl rfl ⟨rfl,rfl,rfl⟩) ?_;refine e_step rfl (o_pcall (s135oc (.mk kd it tx xs ns) _ (encVs_length xs) s _ hsz) rfl ⟨rfl,rfl,rfl⟩) ?_;refine e_step2 rfl rfl (o_move rfl ⟨rfl,rfl,rfl⟩) ?_ ?_;rotate_left;refine e_w0 rfl rfl (o_st_agg rfl (congrArg SV.d (encV_eq _)) th27 rfl hbb4_22 (by simp [valCells]) ⟨rfl,rfl,rfl⟩) ?_;refine e_step rfl (o_assign rfl ⟨rfl,rfl,rfl⟩) ?_;refine e_nil rfl fun o25 ho25=>?_;have hbb2_25:=(ho25 _).trans ((upd_ne _ _ (by omega)).trans hbb2_22);have hbb3_25:=(ho25 _).trans ((upd_ne _ _ (by omega)).trans hbb3_22);have hbb20_25:=(ho25 _).trans ((upd_ne _ _ (by omega)).trans hbb20_22);have hbb4_25:=(ho25 _).trans (upd_same _ _ _);have hk25:∀ t,t < nk→o25 t=o22 t:=fun t ht=>(ho25 t).trans (upd_ne _ _ (by omega))
      ·
       refine hK23 _ (WP.ret ?_);refine retC_ok (resis_agg rfl th27 rfl hbb4_25 rfl rfl rfl) rfl ?_ ?_ (by omega) (fun t ht=>(hk25 t (by omega)).trans ((hk22 t (by omega)).trans ((hk4 t (by omega)).trans ((hk3 t (by omega)).trans ((hk2 t (by omega)))))))
       ·rw [setR_doc h0 hc18];first | rfl | exact (encV_eq _).symm
       ·rw [setR_doc h0 hc18]
      exact o_move rfl ⟨rfl,rfl,rfl⟩
     exact o_bu rfl th27 rfl rfl ⟨rfl,rfl,rfl⟩;exact o_move rfl ⟨rfl,rfl,rfl⟩;exact o_sl_tl rfl rfl th22 rfl th9 rfl ⟨rfl,rfl,rfl⟩;exact o_ld_agg rfl th27 rfl ((upd_ne _ _ (by omega)).trans hb3_4) rfl rfl rfl ⟨rfl,rfl,rfl⟩;exact o_pcall ((ih p (.mk 7 0 [] [] []) (.mk k2 i2 t2 xs2 ns2) hp2 (by decide) (by decide)).le (args:=[.d (.agg [.int .i64 7,.int .i64 0,.str [],.nil,.nil]),.d (.sl 1 (p.map .str)),.d (encV (.mk k2 i2 t2 xs2 ns2))]) ⟨doc0_le,D.le_refl _,D.le_refl _,trivial⟩) rfl ⟨rfl,rfl,rfl⟩;exact o_moveV (v:=.tup _) rfl ⟨rfl,rfl,rfl⟩;exact o_ext rfl rfl ⟨rfl,rfl,rfl⟩;exact o_ext rfl rfl ⟨rfl,rfl,rfl⟩;exact o_ext rfl rfl ⟨rfl,rfl,rfl⟩
    ·
     simp at hc18;refine wr (ub (ua (u_nil ?_)));refine wc (fun hc27=>?_) (fun hc27=>?_)
     ·
      simp at hc27;refine wr (um (un th22 ?_));refine ub (um ?_);apply gT
      ·rfl
      ·intro hg;exact pm
      apply gT
      ·rfl
      ·intro hg;try simp only [hg,ct,Bt]
       refine o_ia_sl rfl rfl th22 rfl th9 rfl (by decide) rfl ⟨rfl,rfl,rfl⟩
      apply gT
      ·rfl
      ·intro hg;try simp only [hg,ct,Bt]
       exact pL th9
      apply gT
      ·rfl
      ·intro hg;try simp only [hg,ct,Bt]
       refine o_pcall (s136 s) rfl ⟨rfl,rfl,rfl⟩
      apply gT
      ·rfl
      ·intro hg;exact pm
      apply gT
      ·rfl
      ·intro hg;try simp only [hg,ct,Bt]
       exact pb
      refine uA (u_nil ?_);refine wc (fun hc29=>?_) (fun hc29=>?_)
      ·
       simp at hc29;have hA:kd=6∧p=[]∧stepI s=(xs.length:Int):=by have hgo:=hc29;simp [encVs_length] at hgo;exact ⟨by assumption,List.length_eq_zero_iff.1 (by have:=hgo.1;omega),hgo.2⟩
       refine wr (ug th27 hb2_4 ?_);refine um (ug th27 hb3_4 ?_);refine u_step (o_pcall (s135oc (.mk kd it tx xs ns) _ (encVs_length xs) [] (.mk k2 i2 t2 xs2 ns2) hsz) rfl ?_);refine u_step0 (g_sta rfl (congrArg SV.d (encV_eq _)) th27 rfl hb4 (by simp [valCells]) fun o31 hb31 hk31=>?_);have hb2_31:=(hk31 _ (by omega)).trans hb2_4;have hb3_31:=(hk31 _ (by omega)).trans hb3_4;refine ua (u_nil (WP.ret ?_));refine retC_ok (resis_agg rfl th27 rfl hb31 rfl rfl rfl) rfl ?_ ?_ (by omega) (fun t ht=>(hk31 t (by omega)).trans ((hk4 t (by omega)).trans ((hk3 t (by omega)).trans ((hk2 t (by omega))))))
       ·rw [setR_arr h0 (by assumption) hA];first | rfl | exact (encV_eq _).symm
       ·rw [setR_arr h0 (by assumption) hA]
      ·
       simp at hc29;have hA:¬ (kd=6∧p=[]∧stepI s=(xs.length:Int)):=by rintro ⟨_,rfl,e⟩;have hgo:=hc29;simp [encVs_length,e] at hgo
       refine WP.skip (hK15 _ (wr (ug th27 hb2_4 ?_)));refine u_step0 (g_sta rfl rfl th27 rfl hb4 (by first | (simp;done) | (simp [D.leaves,D.width,valCells];done) | decide) fun o33 hb33 hk33=>?_);have hb2_33:=(hk33 _ (by omega)).trans hb2_4;have hb3_33:=(hk33 _ (by omega)).trans hb3_4;refine ua (u_nil (WP.ret ?_));refine retC_ok (resis_agg rfl th27 rfl hb33 rfl rfl rfl) rfl ?_ ?_ (by omega) (fun t ht=>(hk33 t (by omega)).trans ((hk4 t (by omega)).trans ((hk3 t (by omega)).trans ((hk2 t (by omega))))))
       ·rw [setR_no h0 (by assumption) hA];first | rfl | exact (encV_eq _).symm
       ·rw [setR_no h0 (by assumption) hA]
     ·
      simp at hc27;have hA:¬ (kd=6∧p=[]∧stepI s=(xs.length:Int)):=fun e=>absurd e.1 hc27;refine WP.skip (hK15 _ (wr (ug th27 hb2_4 ?_)));refine u_step0 (g_sta rfl rfl th27 rfl hb4 (by first | (simp;done) | (simp [D.leaves,D.width,valCells];done) | decide) fun o35 hb35 hk35=>?_);have hb2_35:=(hk35 _ (by omega)).trans hb2_4;have hb3_35:=(hk35 _ (by omega)).trans hb3_4;refine ua (u_nil (WP.ret ?_));refine retC_ok (resis_agg rfl th27 rfl hb35 rfl rfl rfl) rfl ?_ ?_ (by omega) (fun t ht=>(hk35 t (by omega)).trans ((hk4 t (by omega)).trans ((hk3 t (by omega)).trans ((hk2 t (by omega))))))
      ·rw [setR_no h0 (by assumption) hA];first | rfl | exact (encV_eq _).symm
      ·rw [setR_no h0 (by assumption) hA]
   ·
    simp at hc13;have h0:¬ placeV (.mk kd it tx xs ns) s < 0:=by omega
    have hlt:=place_lt hmy s;obtain ⟨y,hy⟩:∃ y,xs[(placeV (.mk kd it tx xs ns) s).toNat]?=some y:=item_ex (xs:=xs) (j:=(placeV (.mk kd it tx xs ns) s).toNat) (by simp only [Val.items] at hlt;omega);have hym:mayV y=true:=may_item hmy (List.mem_of_getElem? hy);have hys:=sz_item (v:=(.mk kd it tx xs ns)) hy;refine WP.skip (hK11 _ (WP.seq fun K36 hK36=>?_));refine WP.dr2 [.q 0 1,.q 0 1,.q 0 1,.q 0 1,.q 0 1,.q 0 1,.q 0 1,.q 0 1,.q 0 1,.q 0 1,.q 0 1,.q 0 2,.w 0,.w 1,.q 2 2] [12,13] ((((nk+1)+1)+1)+1) ((((nk+1)+1)+1)+1) tabOk (by kernel_rfl) rfl (by kernel_rfl) (by kernel_rfl) ?_;apply Exists.intro;apply Exists.intro;refine e_step2 rfl rfl (o_fa_loc rfl th27 rfl rfl th25 (by decide) hb2_4 ⟨rfl,rfl,rfl⟩) ?_ ?_;rotate_left;refine e_step2 rfl rfl (o_ld_loc rfl th25 rfl hb2_4 rfl ⟨rfl,rfl,rfl⟩) ?_ ?_;rotate_left;refine e_step2 rfl rfl (o_move rfl ⟨rfl,rfl,rfl⟩) ?_ ?_;rotate_left;refine e_step2 rfl rfl (o_ia_sl (a:=encV y) rfl rfl th25 rfl th27 rfl (by omega) (items_at (v:=(.mk kd it tx xs ns)) hy) ⟨rfl,rfl,rfl⟩) ?_ ?_;rotate_left;refine e_step2 rfl rfl (o_ld_el rfl th27 (by simp only [encV_leaf,TK.agg,Bool.not_true]) (by simp only [encV_width]) ⟨rfl,rfl,rfl⟩) ?_ ?_;rotate_left;refine e_step2 rfl rfl (o_move rfl ⟨rfl,rfl,rfl⟩) ?_ ?_;rotate_left;refine e_step2 rfl rfl (o_sl_tl rfl rfl th22 rfl th9 rfl ⟨rfl,rfl,rfl⟩) ?_ ?_;rotate_left;refine e_step2 rfl rfl (o_ld_agg rfl th27 rfl hb3_4 rfl rfl rfl ⟨rfl,rfl,rfl⟩) ?_ ?_;rotate_left;refine e_step2 rfl rfl (o_pcall (ih p y (.mk k2 i2 t2 xs2 ns2) hp2 hym (by omega)) rfl ⟨rfl,rfl,rfl⟩) ?_ ?_;rotate_left;refine e_step2 rfl rfl (o_moveV (v:=.tup _) rfl ⟨rfl,rfl,rfl⟩) ?_ ?_;rotate_left;refine e_step2 rfl rfl (o_ext rfl rfl ⟨rfl,rfl,rfl⟩) ?_ ?_;rotate_left;refine e_step3 rfl rfl rfl (o_ext rfl rfl ⟨rfl,rfl,rfl⟩) ?_ ?_ ?_;rotate_left 2;refine e_w rfl rfl (o_alloc th27 rfl ⟨rfl,rfl,rfl⟩) ?_;refine e_w0 rfl rfl (o_st_agg rfl (congrArg SV.d (encV_eq _)) th27 rfl (upd_same _ _ _) (by simp [valCells]) ⟨rfl,rfl,rfl⟩) ?_;refine e_step rfl (o_assign rfl ⟨rfl,rfl,rfl⟩) ?_;refine e_nil rfl fun o39 ho39=>?_;have hbb2_39:=(ho39 _).trans ((upd_ne _ _ (by omega)).trans ((upd_ne _ _ (by omega)).trans hb2_4));have hbb3_39:=(ho39 _).trans ((upd_ne _ _ (by omega)).trans ((upd_ne _ _ (by omega)).trans hb3_4));have hbb4_39:=(ho39 _).trans ((upd_ne _ _ (by omega)).trans ((upd_ne _ _ (by omega)).trans hb4));have hbb37_39:=(ho39 _).trans (upd_same _ _ _);have hk39:∀ t,t < nk→o39 t=o4 t:=fun t ht=>(ho39 t).trans ((upd_ne _ _ (by omega)).trans (upd_ne _ _ (by omega)))
    ·
     refine hK36 _ (wr (ug th27 hbb2_39 ?_));refine um (ug th27 hbb37_39 ?_);refine u_step (o_pcall (s135ic (.mk kd it tx xs ns) (placeV (.mk kd it tx xs ns) s) [] _ (by omega) (by simp only [Val.items] at hlt ⊢;omega) hsz) rfl ?_);refine um ?_;refine u_step0 (g_sta rfl (congrArg SV.d (encV_eq _)) th27 rfl hbb4_39 (by simp [valCells]) fun o41 hb41 hk41=>?_);have hbb2_41:=(hk41 _ (by omega)).trans hbb2_39;have hbb3_41:=(hk41 _ (by omega)).trans hbb3_39;have hbb37_41:=(hk41 _ (by omega)).trans hbb37_39;refine ua (u_nil (WP.ret ?_));refine retC_ok (resis_agg rfl th27 rfl hb41 rfl rfl rfl) rfl ?_ ?_ (by omega) (fun t ht=>(hk41 t (by omega)).trans ((hk39 t (by omega)).trans ((hk4 t (by omega)).trans ((hk3 t (by omega)).trans ((hk2 t (by omega)))))))
     ·rw [setR_in h0 hy];first | rfl | exact (encV_eq _).symm
     ·rw [setR_in h0 hy]
    exact o_fa_loc rfl th27 rfl rfl th25 (by decide) ((upd_ne _ _ (by omega)).trans hb2_4) ⟨rfl,rfl,rfl⟩;exact o_ld_loc rfl th25 rfl ((upd_ne _ _ (by omega)).trans hb2_4) rfl ⟨rfl,rfl,rfl⟩;exact o_move rfl ⟨rfl,rfl,rfl⟩;exact o_ia_sl (a:=encV y) rfl rfl th25 rfl th27 rfl (by omega) (items_at (v:=(.mk kd it tx xs ns)) hy) ⟨rfl,rfl,rfl⟩;exact o_ld_el rfl th27 (by simp only [encV_leaf,TK.agg,Bool.not_true]) (by simp only [encV_width]) ⟨rfl,rfl,rfl⟩;exact o_move rfl ⟨rfl,rfl,rfl⟩;exact o_sl_tl rfl rfl th22 rfl th9 rfl ⟨rfl,rfl,rfl⟩;exact o_ld_agg rfl th27 rfl ((upd_ne _ _ (by omega)).trans hb3_4) rfl rfl rfl ⟨rfl,rfl,rfl⟩;exact o_pcall (ih p y (.mk k2 i2 t2 xs2 ns2) hp2 hym (by omega)) rfl ⟨rfl,rfl,rfl⟩;exact o_moveV (v:=.tup _) rfl ⟨rfl,rfl,rfl⟩;exact o_ext rfl rfl ⟨rfl,rfl,rfl⟩;exact o_ext rfl rfl ⟨rfl,rfl,rfl⟩;exact o_ext rfl rfl ⟨rfl,rfl,rfl⟩
theorem s81 (p:List Str) (v x:Val) (hmy:mayV v=true) (hsz:szV v≤1099511627776):PSpec Tryz.prog 81 [.d (encV v),.d (.sl 1 (p.map .str)),.d (encV x)] (.tup (([encV (setR v p x).1,.bool (setR v p x).2]).map .d)):=s81A _ p v x (Nat.lt_succ_self _) hmy hsz
theorem nullV_le:SV.le (.d (.agg [.int .i64 1,.int .i64 0,.str [],.nil,.nil])) (.d (encV nullV)):=by simp [SV.le,D.le,D.les,nullV,encV,encVs]
theorem s135n (v:Val) (i:Int) (s:Str) (h0:0≤i) (hj:i.toNat < v.items.length) (hsz:szV v≤1099511627776):PSpec Tryz.prog 135 [.d (encV v),.d (.int .i64 i),.d (.str s),.d (.agg [.int .i64 1,.int .i64 0,.str [],.nil,.nil])] (.d (encV (swapV v i.toNat nullV))):=by
 have h:=s135i v i.toNat s nullV hj hsz;rw [Int.toNat_of_nonneg h0] at h;exact h.le ⟨D.le_refl _,D.le_refl _,D.le_refl _,nullV_le,trivial⟩
theorem encVs_cut (xs:List Val) (i:Nat):(encVs xs).take i++(encVs xs).drop (i+1)=encVs (xs.eraseIdx i):=by
 rw [← encVs_erase,List.eraseIdx_eq_take_drop_succ]
theorem strs_cut (ns:List Str) (i:Nat):(ns.map D.str).take i++(ns.map D.str).drop (i+1)=(ns.eraseIdx i).map .str:=by
 rw [← strs_erase,List.eraseIdx_eq_take_drop_succ]
theorem s135ii (v:Val) (i:Int) (s:Str) (x:Val) (h0:0≤i) (hj:i.toNat < v.items.length) (hsz:szV v≤1099511627776):PSpec Tryz.prog 135 [.d (encV v),.d (.int .i64 i),.d (.str s),.d (encV x)] (.d (encV (swapV v i.toNat x))):=by
 have h:=s135i v i.toNat s x hj hsz;rw [Int.toNat_of_nonneg h0] at h;exact h
theorem addI {n:Int} (h0:0≤n) (h:n≤1099511627776):intBin .add .i64 n 1=some (.int .i64 (n+1)):=by
 show some (D.int .i64 (IntKind.i64.wrap (n+1)))=_;rw [wrap_i64 (by omega) (by omega)]
section
variable {P:Program} {Θ:Tab} {K:SV→(Nat→Option AO)→Nat→Prop} {sl:Nat→SV} {o:Nat→Option AO} {nk:Nat} {x b:Operand} {t e:Nat} {i j:TI} {z:Nat} {ys:List D} {n:Int}
theorem o_sl_hdI (hx:ev sl x=.d (.sl z ys)) (hb:ev sl b=.d (.int .i64 n)) (hi:Θ t=some i) (hk:i.k=.slice e) (hj:Θ e=some j) (hz:j.sz=z) (h0:0≤n) (hn:n.toNat≤ys.length) (h:K (.d (.sl z (ys.take n.toNat))) o nk):vOp P Θ (.slice t x none (some b) none) ⟨sl,o,nk⟩ K:=by
 refine o_sl_sl (m:=n.toNat) (p:=0) hx hi hk hj hz ?_ rfl ?_
 ·simp only [Option.map_some,bndO,hb,bnd];rw [if_pos (by omega)]
 ·rw [List.drop_zero];exact h
theorem o_sl_tlI (hx:ev sl x=.d (.sl z ys)) (hb:ev sl b=.d (.int .i64 n)) (hi:Θ t=some i) (hk:i.k=.slice e) (hj:Θ e=some j) (hz:j.sz=z) (h0:0≤n) (hn:n.toNat≤ys.length) (h:K (.d (.sl z (ys.drop n.toNat))) o nk):vOp P Θ (.slice t x (some b) none none) ⟨sl,o,nk⟩ K:=by
 refine o_sl_sl (m:=ys.length) (p:=n.toNat) hx hi hk hj hz rfl ?_ ?_
 ·simp only [Option.map_some,bndO,hb,bnd];rw [if_pos (by omega)]
 ·rw [List.take_length];exact h
end
theorem fn82:FnOkC Tryz.prog 82 65 [.cell 4 27] (bodyOf Tryz.f82):=⟨Tryz.f82,Tryz.func82,by kernel_rfl,by decide,by kernel_rfl,by kernel_rfl⟩
theorem s82A (m:Nat):∀ (p:List Str) (v:Val),p.length < m→p≠[]→mayV v=true→szV v≤1099511627776→PSpec Tryz.prog 82 [.d (encV v),.d (.sl 1 (p.map .str))] (.d (encV (atV withoutV v p))):=by
 induction m with
 | zero=>intros;omega
 | succ m ih=>
  rintro p ⟨kd,it,tx,xs,ns⟩ hp hne hmy hsz;refine PSpec.ofC1 tabOk fn82 (by simp) fun o nk=>?_;refine wr ?_;refine u_step (g_box rfl fun o2 hb2 hk2=>?_);refine u_step (g_alloc th27 rfl fun o3 hb3 hk3=>?_);have hb2_3:=(hk3 _ (by omega)).trans hb2;refine u_nil ?_;obtain ⟨s,p,rfl⟩:∃ s q,p=s :: q:=by cases p with
   | nil=>exact absurd rfl hne
   | cons s q=>exact ⟨s,q,rfl⟩
  have hp2:p.length < m:=by simp at hp;omega
  have hsz2:1+tx.length+szVs xs+szN ns≤1099511627776:=hsz;have hxl:=szVs_len xs;have hnl:=szN_len ns;have hln:=encVs_length xs;refine wd ?_;refine dg th27 hb2_3 ?_;refine dm ?_;refine d_step (o_ia_sl rfl rfl th22 rfl th9 rfl (by decide) rfl ⟨rfl,rfl,rfl⟩) ?_;refine dL th9 ?_;refine d_step (o_pcall (s115 (.mk kd it tx xs ns) s) rfl ⟨rfl,rfl,rfl⟩) ?_;refine da ?_;refine d_nil ?_;refine WP.seq fun K5 hK5=>?_;refine wr (um (ub (u_nil ?_)));refine wc (fun hc7=>?_) (fun hc7=>?_)
  ·
   simp at hc7;have h0:placeV (.mk kd it tx xs ns) s < 0:=hc7;refine wr (ug th27 hb2_3 ?_);refine u_step0 (g_sta rfl rfl th27 rfl hb3 (by first | (simp;done) | (simp [D.leaves,D.width,valCells];done) | decide) fun o9 hb9 hk9=>?_);have hb2_9:=(hk9 _ (by omega)).trans hb2_3;refine u_nil (WP.ret ?_);refine retC1_ok (resis_agg rfl th27 rfl hb9 rfl rfl rfl) ?_ (by omega) (fun t ht=>(hk9 t (by omega)).trans ((hk3 t (by omega)).trans ((hk2 t (by omega)))));rw [at_no h0];rfl
  ·
   simp at hc7;have h0:¬ placeV (.mk kd it tx xs ns) s < 0:=by omega
   have hlt:=place_lt hmy s;obtain ⟨y,hy⟩:∃ y,xs[(placeV (.mk kd it tx xs ns) s).toNat]?=some y:=item_ex (xs:=xs) (j:=(placeV (.mk kd it tx xs ns) s).toNat) (by simp only [Val.items] at hlt;omega);have hym:mayV y=true:=may_item hmy (List.mem_of_getElem? hy);have hys:=sz_item (v:=(.mk kd it tx xs ns)) hy;refine WP.skip (hK5 _ (WP.seq fun K10 hK10=>?_));refine wr (um (un th22 ?_));refine ub (u_nil ?_);refine wc (fun hc12=>?_) (fun hc12=>?_)
   ·
    simp at hc12;have hq:¬ p=[]:=by intro e;subst e;simp at hc12
    refine WP.seq fun K13 hK13=>?_;refine WP.dr1 [.q 0 0,.q 0 0,.q 0 0,.q 0 0,.q 0 0,.q 0 0,.q 0 0,.q 0 0,.q 0 0,.q 0 0,.q 0 0,.w 0] [11] ((nk+1)+1) tabOk (by kernel_rfl) rfl (by kernel_rfl) (by kernel_rfl) ?_;apply Exists.intro;refine e_step rfl (o_ld_agg rfl th27 rfl hb2_3 rfl rfl rfl ⟨rfl,rfl,rfl⟩) ?_;refine e_step rfl (o_move rfl ⟨rfl,rfl,rfl⟩) ?_;refine e_step rfl (o_fa_loc rfl th27 rfl rfl th25 (by decide) hb2_3 ⟨rfl,rfl,rfl⟩) ?_;refine e_step rfl (o_ld_loc rfl th25 rfl hb2_3 rfl ⟨rfl,rfl,rfl⟩) ?_;refine e_step rfl (o_move rfl ⟨rfl,rfl,rfl⟩) ?_;refine e_step rfl (o_ia_sl (a:=encV y) rfl rfl th25 rfl th27 rfl (by omega) (items_at (v:=(.mk kd it tx xs ns)) hy) ⟨rfl,rfl,rfl⟩) ?_;refine e_step rfl (o_ld_el rfl th27 (by simp only [encV_leaf,TK.agg,Bool.not_true]) (by simp only [encV_width]) ⟨rfl,rfl,rfl⟩) ?_;refine e_step rfl (o_move rfl ⟨rfl,rfl,rfl⟩) ?_;refine e_step rfl (o_sl_tl rfl rfl th22 rfl th9 rfl ⟨rfl,rfl,rfl⟩) ?_;refine e_step rfl (o_pcall (ih p y hp2 hq hym (by omega)) rfl ⟨rfl,rfl,rfl⟩) ?_;refine e_step rfl (o_pcall (s135ii (.mk kd it tx xs ns) (placeV (.mk kd it tx xs ns) s) [] _ (by omega) (by simp only [Val.items] at hlt ⊢;omega) hsz) rfl ⟨rfl,rfl,rfl⟩) ?_;refine e_w0 rfl rfl (o_st_agg rfl (congrArg SV.d (encV_eq _)) th27 rfl hb3 (by simp [valCells]) ⟨rfl,rfl,rfl⟩) ?_;refine e_nil rfl fun o15 ho15=>?_;have hbb2_15:=(ho15 _).trans ((upd_ne _ _ (by omega)).trans hb2_3);have hbb3_15:=(ho15 _).trans (upd_same _ _ _);have hk15:∀ t,t < nk→o15 t=o3 t:=fun t ht=>(ho15 t).trans (upd_ne _ _ (by omega));refine hK13 _ (WP.ret ?_);refine retC1_ok (resis_agg rfl th27 rfl hbb3_15 rfl rfl rfl) ?_ (by omega) (fun t ht=>(hk15 t (by omega)).trans ((hk3 t (by omega)).trans ((hk2 t (by omega)))));rw [at_in h0 hq hy];exact (encV_eq _).symm
   ·
    simp at hc12;have hq:p=[]:=List.length_eq_zero_iff.1 (by omega);subst hq;refine WP.skip (hK10 _ (WP.seq fun K16 hK16=>?_));refine wr (uf th27 th3 hb2_3 ?_);refine ul th3 hb2_3 ?_;refine ub (u_nil ?_);refine wc (fun hc18=>?_) (fun hc18=>?_)
    ·
     simp at hc18;refine wr (ug th27 hb2_3 ?_);refine um ?_;refine u_step (o_bu rfl th27 rfl rfl ?_);refine u_step (o_pcall (s135n (.mk kd it tx xs ns) (placeV (.mk kd it tx xs ns) s) [] (by omega) (by simp only [Val.items] at hlt ⊢;omega) hsz) rfl ?_);refine u_step0 (g_sta rfl (congrArg SV.d (encV_eq _)) th27 rfl hb3 (by simp [valCells]) fun o20 hb20 hk20=>?_);have hb2_20:=(hk20 _ (by omega)).trans hb2_3;refine u_nil (WP.ret ?_);refine retC1_ok (resis_agg rfl th27 rfl hb20 rfl rfl rfl) ?_ (by omega) (fun t ht=>(hk20 t (by omega)).trans ((hk3 t (by omega)).trans ((hk2 t (by omega)))));rw [at_do h0,withoutV,if_pos (by assumption)];first | rfl | exact (encV_eq _).symm
    ·
     simp at hc18;have hk7:kd=7:=by rcases place_kind (v:=(.mk kd it tx xs ns)) (s:=s) (by omega) with h | h;exact absurd h hc18;exact h
     have hn7:=may7k hmy hk7;have hi2:(placeV (.mk kd it tx xs ns) s).toNat < xs.length:=by simp only [Val.items] at hlt;omega
     refine WP.skip (hK16 _ (wr (ug th27 hb2_3 ?_)));refine u_step (o_pcall (s28 (.mk kd it tx xs ns) hsz) rfl ?_);refine u_step (g_alloc th27 rfl fun o22 hb22 hk22=>?_);have hb2_22:=(hk22 _ (by omega)).trans hb2_3;have hb3_22:=(hk22 _ (by omega)).trans hb3;refine u_step0 (g_sta rfl (show _=SV.d (.agg [.int .i64 kd,.int .i64 it,.str tx,.sl 5 (encVs xs),.sl 1 (ns.map .str)]) from rfl) th27 rfl hb22 (by simp) fun o23 hb23 hk23=>?_);have hb2_23:=(hk23 _ (by omega)).trans hb2_22;have hb3_23:=(hk23 _ (by omega)).trans hb3_22;refine u_nil (WP.seq fun K24 hK24=>?_);refine WP.dr4 [.w 0,.q 0 1,.q 0 1,.q 0 1,.q 0 1,.w 1,.q 0 2,.q 0 2,.q 0 2,.q 0 2,.q 0 2,.w 2,.q 3 3,.w 3] [0,5,11,13] ((((nk+1)+1)+1)+1) (((((nk+1)+1)+1)+1)+1) ((((((nk+1)+1)+1)+1)+1)+1) ((((((nk+1)+1)+1)+1)+1)+1) tabOk (by kernel_rfl) rfl (by kernel_rfl) (by kernel_rfl) ?_;apply Exists.intro;apply Exists.intro;apply Exists.intro;apply Exists.intro;refine e_w rfl rfl (o_bs0 th25 rfl th27 rfl rfl (by decide) ⟨rfl,rfl,rfl⟩) ?_;refine e_step2 rfl rfl (o_fa_loc rfl th27 rfl rfl th25 (by decide) hb23 ⟨rfl,rfl,rfl⟩) (o_fa_loc rfl th27 rfl rfl th25 (by decide) ((upd_ne _ _ (by omega)).trans hb23) ⟨rfl,rfl,rfl⟩) ?_;refine e_step2 rfl rfl (o_ld_loc rfl th25 rfl hb23 rfl ⟨rfl,rfl,rfl⟩) (o_ld_loc rfl th25 rfl ((upd_ne _ _ (by omega)).trans hb23) rfl ⟨rfl,rfl,rfl⟩) ?_;refine e_step2 rfl rfl (o_move rfl ⟨rfl,rfl,rfl⟩) (o_move rfl ⟨rfl,rfl,rfl⟩) ?_;refine e_step2 rfl rfl (o_sl_hdI rfl rfl th25 rfl th27 rfl (by omega) (by first | omega | (rw [List.length_map];omega)) ⟨rfl,rfl,rfl⟩) (o_sl_hdI rfl rfl th25 rfl th27 rfl (by omega) (by first | omega | (rw [List.length_map];omega)) ⟨rfl,rfl,rfl⟩) ?_;refine e_w rfl rfl (w_ap rfl rfl th25 rfl th27 rfl rfl (by decide) rfl (upd_same _ _ _) (by simp only [List.length_append,List.length_take,List.length_drop,List.length_nil,List.length_map];omega) (by simp only [List.length_append,List.length_take,List.length_drop,List.length_nil,List.length_map];omega) ⟨rfl,rfl,rfl⟩) ?_;refine e_step3 rfl rfl rfl (o_fa_loc rfl th27 rfl rfl th25 (by decide) hb23 ⟨rfl,rfl,rfl⟩) (o_fa_loc rfl th27 rfl rfl th25 (by decide) ((upd_ne _ _ (by omega)).trans hb23) ⟨rfl,rfl,rfl⟩) (o_fa_loc rfl th27 rfl rfl th25 (by decide) (((upd_ne _ _ (by omega)).trans (upd_ne _ _ (by omega))).trans ((upd_ne _ _ (by omega)).trans hb23)) ⟨rfl,rfl,rfl⟩) ?_;refine e_step3 rfl rfl rfl (o_ld_loc rfl th25 rfl hb23 rfl ⟨rfl,rfl,rfl⟩) (o_ld_loc rfl th25 rfl ((upd_ne _ _ (by omega)).trans hb23) rfl ⟨rfl,rfl,rfl⟩) (o_ld_loc rfl th25 rfl (((upd_ne _ _ (by omega)).trans (upd_ne _ _ (by omega))).trans ((upd_ne _ _ (by omega)).trans hb23)) rfl ⟨rfl,rfl,rfl⟩) ?_;refine e_step3 rfl rfl rfl (o_move rfl ⟨rfl,rfl,rfl⟩) (o_move rfl ⟨rfl,rfl,rfl⟩) (o_move rfl ⟨rfl,rfl,rfl⟩) ?_;refine e_step3 rfl rfl rfl (o_bin_int rfl rfl (by decide) (addI (by omega) (by omega)) ⟨rfl,rfl,rfl⟩) (o_bin_int rfl rfl (by decide) (addI (by omega) (by omega)) ⟨rfl,rfl,rfl⟩) (o_bin_int rfl rfl (by decide) (addI (by omega) (by omega)) ⟨rfl,rfl,rfl⟩) ?_;refine e_step3 rfl rfl rfl (o_sl_tlI rfl rfl th25 rfl th27 rfl (by omega) (by first | omega | (rw [List.length_map];omega)) ⟨rfl,rfl,rfl⟩) (o_sl_tlI rfl rfl th25 rfl th27 rfl (by omega) (by first | omega | (rw [List.length_map];omega)) ⟨rfl,rfl,rfl⟩) (o_sl_tlI rfl rfl th25 rfl th27 rfl (by omega) (by first | omega | (rw [List.length_map];omega)) ⟨rfl,rfl,rfl⟩) ?_;refine e_w rfl rfl (w_ap rfl rfl th25 rfl th27 rfl rfl (by decide) rfl (upd_same _ _ _) (by simp only [List.length_append,List.length_take,List.length_drop,List.length_nil,List.length_map];omega) (by simp only [List.length_append,List.length_take,List.length_drop,List.length_nil,List.length_map];omega) ⟨rfl,rfl,rfl⟩) ?_;refine e_step rfl (o_fa_loc rfl th27 rfl rfl th25 (by decide) (((upd_ne _ _ (by omega)).trans (upd_ne _ _ (by omega))).trans (((upd_ne _ _ (by omega)).trans (upd_ne _ _ (by omega))).trans ((upd_ne _ _ (by omega)).trans hb23))) ⟨rfl,rfl,rfl⟩) ?_;refine e_w0 rfl rfl (w_stV rfl rfl (upd_same _ _ _) th25 rfl (((upd_ne _ _ (by omega)).trans (upd_ne _ _ (by omega))).trans (((upd_ne _ _ (by omega)).trans (upd_ne _ _ (by omega))).trans ((upd_ne _ _ (by omega)).trans hb23))) (by simp) ⟨rfl,rfl,rfl⟩) ?_;refine e_nil rfl fun o29 ho29=>?_;have hbb2_29:=(ho29 _).trans ((upd_ne _ _ (by omega)).trans (((upd_ne _ _ (by omega)).trans (upd_ne _ _ (by omega))).trans (((upd_ne _ _ (by omega)).trans (upd_ne _ _ (by omega))).trans ((upd_ne _ _ (by omega)).trans hb2_23))));have hbb3_29:=(ho29 _).trans ((upd_ne _ _ (by omega)).trans (((upd_ne _ _ (by omega)).trans (upd_ne _ _ (by omega))).trans (((upd_ne _ _ (by omega)).trans (upd_ne _ _ (by omega))).trans ((upd_ne _ _ (by omega)).trans hb3_23))));have hbr27_29:=(ho29 _).trans ((upd_ne _ _ (by omega)).trans (upd_same _ _ _));have hbb22_29:=(ho29 _).trans (upd_same _ _ _);have hk29:∀ t,t < nk→o29 t=o23 t:=fun t ht=>(ho29 t).trans ((upd_ne _ _ (by omega)).trans (((upd_ne _ _ (by omega)).trans (upd_ne _ _ (by omega))).trans (((upd_ne _ _ (by omega)).trans (upd_ne _ _ (by omega))).trans (upd_ne _ _ (by omega)))));refine hK24 _ (WP.seq fun K30 hK30=>?_);refine WP.dr4 [.w 0,.q 0 1,.q 0 1,.q 0 1,.q 0 1,.w 1,.q 0 2,.q 0 2,.q 0 2,.q 0 2,.q 0 2,.w 2,.q 3 3,.w 3] [0,5,11,13] (((((((nk+1)+1)+1)+1)+1)+1)+1) ((((((((nk+1)+1)+1)+1)+1)+1)+1)+1) (((((((((nk+1)+1)+1)+1)+1)+1)+1)+1)+1) (((((((((nk+1)+1)+1)+1)+1)+1)+1)+1)+1) tabOk (by kernel_rfl) rfl (by kernel_rfl) (by kernel_rfl) ?_;apply Exists.intro;apply Exists.intro;apply Exists.intro;apply Exists.intro;refine e_w rfl rfl (o_bs0 th22 rfl th9 rfl rfl (by decide) ⟨rfl,rfl,rfl⟩) ?_;refine e_step2 rfl rfl (o_fa_loc rfl th27 rfl rfl th22 (by decide) hbb22_29 ⟨rfl,rfl,rfl⟩) (o_fa_loc rfl th27 rfl rfl th22 (by decide) ((upd_ne _ _ (by omega)).trans hbb22_29) ⟨rfl,rfl,rfl⟩) ?_;refine e_step2 rfl rfl (o_ld_loc rfl th22 rfl hbb22_29 rfl ⟨rfl,rfl,rfl⟩) (o_ld_loc rfl th22 rfl ((upd_ne _ _ (by omega)).trans hbb22_29) rfl ⟨rfl,rfl,rfl⟩) ?_;refine e_step2 rfl rfl (o_move rfl ⟨rfl,rfl,rfl⟩) (o_move rfl ⟨rfl,rfl,rfl⟩) ?_;refine e_step2 rfl rfl (o_sl_hdI rfl rfl th22 rfl th9 rfl (by omega) (by first | omega | (rw [List.length_map];omega)) ⟨rfl,rfl,rfl⟩) (o_sl_hdI rfl rfl th22 rfl th9 rfl (by omega) (by first | omega | (rw [List.length_map];omega)) ⟨rfl,rfl,rfl⟩) ?_;refine e_w rfl rfl (w_ap rfl rfl th22 rfl th9 rfl rfl (by decide) rfl (upd_same _ _ _) (by simp only [List.length_append,List.length_take,List.length_drop,List.length_nil,List.length_map];omega) (by simp only [List.length_append,List.length_take,List.length_drop,List.length_nil,List.length_map];omega) ⟨rfl,rfl,rfl⟩) ?_;refine e_step3 rfl rfl rfl (o_fa_loc rfl th27 rfl rfl th22 (by decide) hbb22_29 ⟨rfl,rfl,rfl⟩) (o_fa_loc rfl th27 rfl rfl th22 (by decide) ((upd_ne _ _ (by omega)).trans hbb22_29) ⟨rfl,rfl,rfl⟩) (o_fa_loc rfl th27 rfl rfl th22 (by decide) (((upd_ne _ _ (by omega)).trans (upd_ne _ _ (by omega))).trans ((upd_ne _ _ (by omega)).trans hbb22_29)) ⟨rfl,rfl,rfl⟩) ?_;refine e_step3 rfl rfl rfl (o_ld_loc rfl th22 rfl hbb22_29 rfl ⟨rfl,rfl,rfl⟩) (o_ld_loc rfl th22 rfl ((upd_ne _ _ (by omega)).trans hbb22_29) rfl ⟨rfl,rfl,rfl⟩) (o_ld_loc rfl th22 rfl (((upd_ne _ _ (by omega)).trans (upd_ne _ _ (by omega))).trans ((upd_ne _ _ (by omega)).trans hbb22_29)) rfl ⟨rfl,rfl,rfl⟩) ?_;refine e_step3 rfl rfl rfl (o_move rfl ⟨rfl,rfl,rfl⟩) (o_move rfl ⟨rfl,rfl,rfl⟩) (o_move rfl ⟨rfl,rfl,rfl⟩) ?_;refine e_step3 rfl rfl rfl (o_bin_int rfl rfl (by decide) (addI (by omega) (by omega)) ⟨rfl,rfl,rfl⟩) (o_bin_int rfl rfl (by decide) (addI (by omega) (by omega)) ⟨rfl,rfl,rfl⟩) (o_bin_int rfl rfl (by decide) (addI (by omega) (by omega)) ⟨rfl,rfl,rfl⟩) ?_;refine e_step3 rfl rfl rfl (o_sl_tlI rfl rfl th22 rfl th9 rfl (by omega) (by first | omega | (rw [List.length_map];omega)) ⟨rfl,rfl,rfl⟩) (o_sl_tlI rfl rfl th22 rfl th9 rfl (by omega) (by first | omega | (rw [List.length_map];omega)) ⟨rfl,rfl,rfl⟩) (o_sl_tlI rfl rfl th22 rfl th9 rfl (by omega) (by first | omega | (rw [List.length_map];omega)) ⟨rfl,rfl,rfl⟩) ?_;refine e_w rfl rfl (w_ap rfl rfl th22 rfl th9 rfl rfl (by decide) rfl (upd_same _ _ _) (by simp only [List.length_append,List.length_take,List.length_drop,List.length_nil,List.length_map];omega) (by simp only [List.length_append,List.length_take,List.length_drop,List.length_nil,List.length_map];omega) ⟨rfl,rfl,rfl⟩) ?_;refine e_step rfl (o_fa_loc rfl th27 rfl rfl th22 (by decide) (((upd_ne _ _ (by omega)).trans (upd_ne _ _ (by omega))).trans (((upd_ne _ _ (by omega)).trans (upd_ne _ _ (by omega))).trans ((upd_ne _ _ (by omega)).trans hbb22_29))) ⟨rfl,rfl,rfl⟩) ?_;refine e_w0 rfl rfl (w_stV rfl rfl (upd_same _ _ _) th22 rfl (((upd_ne _ _ (by omega)).trans (upd_ne _ _ (by omega))).trans (((upd_ne _ _ (by omega)).trans (upd_ne _ _ (by omega))).trans ((upd_ne _ _ (by omega)).trans hbb22_29))) (by simp) ⟨rfl,rfl,rfl⟩) ?_;refine e_nil rfl fun o35 ho35=>?_;have hbb2_35:=(ho35 _).trans ((upd_ne _ _ (by omega)).trans (((upd_ne _ _ (by omega)).trans (upd_ne _ _ (by omega))).trans (((upd_ne _ _ (by omega)).trans (upd_ne _ _ (by omega))).trans ((upd_ne _ _ (by omega)).trans hbb2_29))));have hbb3_35:=(ho35 _).trans ((upd_ne _ _ (by omega)).trans (((upd_ne _ _ (by omega)).trans (upd_ne _ _ (by omega))).trans (((upd_ne _ _ (by omega)).trans (upd_ne _ _ (by omega))).trans ((upd_ne _ _ (by omega)).trans hbb3_29))));have hbr27_35:=(ho35 _).trans ((upd_ne _ _ (by omega)).trans (((upd_ne _ _ (by omega)).trans (upd_ne _ _ (by omega))).trans (((upd_ne _ _ (by omega)).trans (upd_ne _ _ (by omega))).trans ((upd_ne _ _ (by omega)).trans hbr27_29))));have hbr33_35:=(ho35 _).trans ((upd_ne _ _ (by omega)).trans (upd_same _ _ _));have hbb22_35:=(ho35 _).trans (upd_same _ _ _);have hk35:∀ t,t < nk→o35 t=o29 t:=fun t ht=>(ho35 t).trans ((upd_ne _ _ (by omega)).trans (((upd_ne _ _ (by omega)).trans (upd_ne _ _ (by omega))).trans (((upd_ne _ _ (by omega)).trans (upd_ne _ _ (by omega))).trans (upd_ne _ _ (by omega)))));refine hK30 _ ?_;have hF0:∀ t,t < nk→o35 t=o t:=(fun t ht=>(hk35 t (by omega)).trans ((hk29 t (by omega)).trans ((hk23 t (by omega)).trans ((hk22 t (by omega)).trans ((hk3 t (by omega)).trans ((hk2 t (by omega))))))));refine WP.frzC2 (pre:=[.d (.int .i64 kd),.d (.int .i64 it),.d (.str tx)]) (post:=[]) [(4,.loc (nk+1) 0),(6,.loc ((nk+1)+1) 0)] nk hbb22_35 (dst_row hbr27_35) (dst_row hbr33_35) (fun t h1 h2=>by injection h1 with h1;injection h2 with h2;omega) (by omega) (fun t d=>⟨rfl,rfl⟩) (fun t d=>by simp only [List.forall_mem_cons];exact ⟨⟨rfl,rfl⟩,⟨rfl,rfl⟩,by simp⟩) (by simp only [List.forall_mem_cons];exact ⟨rfl,rfl,by simp⟩) (by simp only [List.forall_mem_cons];exact ⟨rfl,rfl,by simp⟩) fun o9 hB9 hk9 hm9=>?_;have hZ9:=hm9 _ _ (by omega) hbb3_35 fun t _=>rfl;have hF9:∀ t,t < nk→o9 t=o t:=fun t ht=>(hk9 t ht (by simp;omega) (by simp;omega)).trans (hF0 t ht);refine wr (ug th27 hB9 ?_);refine u_step0 (g_sta rfl rfl th27 rfl hZ9 (by first | (simp;done) | (simp [D.leaves,D.width,valCells];done) | decide) fun o37 hb37 hk37=>?_);have hB9_37:=(hk37 _ (by omega)).trans hB9;refine u_nil (WP.ret ?_);refine retC1_ok (resis_agg rfl th27 rfl hb37 rfl rfl rfl) ?_ (by omega) (fun t ht=>(hk37 t (by omega)).trans ((hF9 t (by omega))));rw [at_do h0,withoutV,if_neg (by simp only [Val.kind];omega)];have hj1:((placeV (.mk kd it tx xs ns) s)+1).toNat=(placeV (.mk kd it tx xs ns) s).toNat+1:=by omega
     rw [hj1];simp only [List.nil_append];rw [encVs_cut,strs_cut];rfl
theorem s82 (p:List Str) (v:Val) (hne:p≠[]) (hmy:mayV v=true) (hsz:szV v≤1099511627776):PSpec Tryz.prog 82 [.d (encV v),.d (.sl 1 (p.map .str))] (.d (encV (atV withoutV v p))):=s82A _ p v (Nat.lt_succ_self _) hne hmy hsz
theorem szV_getV:∀ (p:List Str) (v a:Val),getV v p=some a→szV a≤szV v
 | [],v,a,h=>by simp only [getV,Option.some.injEq] at h;subst h;omega
 | s :: p,v,a,h=>by
  by_cases h0:0≤placeV v s
  ·cases hx:v.items[(placeV v s).toNat]? with
   | none=>rw [getV,if_pos h0,hx] at h;cases h
   | some x=>
    rw [get_step h0 hx] at h;have h1:=szV_getV p x a h;have h2:=sz_item hx;omega
  ·rw [get_no (by omega)] at h;cases h
theorem szV_getZ {v a:Val} {p:List Str} (h:a=(getV v p).getD zeroV):szV a≤szV v:=by
 cases hg:getV v p with
 | none=>rw [hg] at h;subst h;have:=szV_one v;have e:szV zeroV=1:=rfl;simp only [Option.getD_none];omega
 | some x=>rw [hg] at h;subst h;exact szV_getV p v _ hg
def cutR (v:Val) (p:List Str) (n:Nat):Val:=match getV v p with
 | some a=>if a.kind≠6∨a.items.length≤n then v else (setR v p (cutI n a)).1
 | none=>v
theorem cutR_no {v a:Val} {p:List Str} {n:Nat} (ha:a=(getV v p).getD zeroV) (h:(getV v p).isSome=false∨a.kind≠6∨a.items.length≤n):cutR v p n=v:=by
 unfold cutR;cases hg:getV v p with
 | none=>rfl
 | some x=>
  rw [hg] at ha h;subst ha;rcases h with h | h
  ·cases h
  ·exact if_pos h
theorem cutR_yes {v a:Val} {p:List Str} {n:Nat} (ha:a=(getV v p).getD zeroV) (h:¬ ((getV v p).isSome=false∨a.kind≠6∨a.items.length≤n)):cutR v p n=(setR v p (cutI n a)).1:=by
 unfold cutR;cases hg:getV v p with
 | none=>rw [hg] at h;exact absurd (.inl rfl) h
 | some x=>
  rw [hg] at ha h;subst ha;exact if_neg fun e=>h (.inr e)
theorem fn83:FnOkC Tryz.prog 83 48 [.cell 6 27] (bodyOf Tryz.f83):=⟨Tryz.f83,Tryz.func83,by kernel_rfl,by decide,by kernel_rfl,by kernel_rfl⟩
theorem s83 (v:Val) (p:List Str) (n:Int) (h0:0≤n) (hmy:mayV v=true) (hsz:szV v≤1099511627776):PSpec Tryz.prog 83 [.d (encV v),.d (.sl 1 (p.map .str)),.d (.int .i64 n)] (.d (encV (cutR v p n.toNat))):=by
 obtain ⟨kd,it,tx,xs,ns⟩:=v;obtain ⟨a,ha⟩:∃ a,a=(getV (.mk kd it tx xs ns) p).getD zeroV:=⟨_,rfl⟩;have h62:PSpec Tryz.prog 62 [.d (encV (.mk kd it tx xs ns)),.d (.sl 1 (p.map .str))] (.tup [.d (encV a),.d (.bool (getV (.mk kd it tx xs ns) p).isSome)]):=by
  have h:=s62 (.mk kd it tx xs ns) p hmy;rw [optL,← ha] at h;exact h
 have hza:=szV_getZ ha;obtain ⟨ka,ia,ta,ys,ny⟩:=a;have hln:=encVs_length ys;refine PSpec.ofC1 tabOk fn83 (by simp) fun o nk=>?_;refine wr ?_;refine u_step (g_box rfl fun o2 hb2 hk2=>?_);refine u_step (g_alloc th27 rfl fun o3 hb3 hk3=>?_);have hb2_3:=(hk3 _ (by omega)).trans hb2;refine u_nil (wr (ug th27 hb2_3 ?_));refine um ?_;refine u_step (o_pcall (h62) rfl ?_);refine u_step (o_moveV (v:=.tup _) rfl ?_);refine ue (ue ?_);refine u_step (g_alloc th27 rfl fun o5 hb5 hk5=>?_);have hb2_5:=(hk5 _ (by omega)).trans hb2_3;have hb3_5:=(hk5 _ (by omega)).trans hb3;refine u_step0 (g_sta rfl rfl th27 rfl hb5 (by first | (simp;done) | (simp [D.leaves,D.width,valCells];done) | decide) fun o6 hb6 hk6=>?_);have hb2_6:=(hk6 _ (by omega)).trans hb2_5;have hb3_6:=(hk6 _ (by omega)).trans hb3_5;refine ua (u_nil (WP.seq fun K7 hK7=>?_));refine wr (um (uN (um ?_)));apply gF
 ·rfl
 ·intro hg;exact pf th27 th3 hb6
 apply gF
 ·rfl
 ·intro hg;try simp only [hg,ct,Bt]
  exact pl th3 hb6
 apply gF
 ·rfl
 ·intro hg;try simp only [hg,ct,Bt]
  exact pb
 refine uO (um ?_);apply gF
 ·rfl
 ·intro hg;exact pf th27 th25 hb6
 apply gF
 ·rfl
 ·intro hg;try simp only [hg,ct,Bt]
  exact pl th25 hb6
 apply gF
 ·rfl
 ·intro hg;try simp only [hg,ct,Bt]
  exact pn th25
 apply gF
 ·rfl
 ·intro hg;exact pm
 apply gF
 ·rfl
 ·intro hg;try simp only [hg,ct,Bt]
  exact pb
 refine uO ?_;refine u_nil ?_;refine wc (fun hc9=>?_) (fun hc9=>?_) <;> try simp only [Q0,Q1,Q2,Q3,Q4,Q5,Q6,Q7,Q8,ge_iff_le,gt_iff_lt] at hc9
 ·
  have hg:(getV (.mk kd it tx xs ns) p).isSome=false∨ka≠6∨ys.length≤n.toNat:=by have hgo:=hc9;cases hs:(getV (.mk kd it tx xs ns) p).isSome <;> simp [hs,encVs_length] at hgo ⊢ <;> omega
  refine wr (ug th27 hb2_6 ?_);refine u_step0 (g_sta rfl rfl th27 rfl hb3_6 (by first | (simp;done) | (simp [D.leaves,D.width,valCells];done) | decide) fun o11 hb11 hk11=>?_);have hb2_11:=(hk11 _ (by omega)).trans hb2_6;have hb6_11:=(hk11 _ (by omega)).trans hb6;refine u_nil (WP.ret ?_);refine retC1_ok (resis_agg rfl th27 rfl hb11 rfl rfl rfl) ?_ (by omega) (fun t ht=>(hk11 t (by omega)).trans ((hk6 t (by omega)).trans ((hk5 t (by omega)).trans ((hk3 t (by omega)).trans ((hk2 t (by omega)))))));rw [cutR_no ha hg];rfl
 ·
  have hg:¬ ((getV (.mk kd it tx xs ns) p).isSome=false∨ka≠6∨ys.length≤n.toNat):=by have hgo:=hc9;cases hs:(getV (.mk kd it tx xs ns) p).isSome <;> simp [hs,encVs_length] at hgo ⊢ <;> omega
  refine WP.skip (hK7 _ (wr (ug th27 hb6 ?_)));refine u_step (o_pcall (s28 (.mk ka ia ta ys ny) (by omega)) rfl ?_);refine u_step (g_alloc th27 rfl fun o13 hb13 hk13=>?_);have hb2_13:=(hk13 _ (by omega)).trans hb2_6;have hb3_13:=(hk13 _ (by omega)).trans hb3_6;have hb6_13:=(hk13 _ (by omega)).trans hb6;refine u_step0 (g_sta rfl rfl th27 rfl hb13 (by first | (simp;done) | (simp [D.leaves,D.width,valCells];done) | decide) fun o14 hb14 hk14=>?_);have hb2_14:=(hk14 _ (by omega)).trans hb2_13;have hb3_14:=(hk14 _ (by omega)).trans hb3_13;have hb6_14:=(hk14 _ (by omega)).trans hb6_13;refine u_nil (wr (uf th27 th25 hb14 ?_));refine ul th25 hb14 ?_;refine um ?_;refine u_step (o_sl_hdV rfl rfl th25 rfl th27 rfl h0 (by omega) ?_);refine uf th27 th25 hb14 ?_;refine u_step0 (g_st rfl rfl rfl th25 rfl hb14 (by first | (simp;done) | (simp [valCells];done) | decide) fun o16 hb16 hk16=>?_);have hb2_16:=(hk16 _ (by omega)).trans hb2_14;have hb3_16:=(hk16 _ (by omega)).trans hb3_14;have hb6_16:=(hk16 _ (by omega)).trans hb6_14;refine u_nil (wr (ug th27 hb2_16 ?_));refine um (ug th27 hb16 ?_);refine u_step (o_pcall (s81 p (.mk kd it tx xs ns) (.mk ka ia ta (ys.take n.toNat) ny) hmy hsz) rfl ?_);refine u_step (o_moveV (v:=.tup _) rfl ?_);refine ue (ue ?_);refine u_step (g_alloc th27 rfl fun o18 hb18 hk18=>?_);have hb2_18:=(hk18 _ (by omega)).trans hb2_16;have hb3_18:=(hk18 _ (by omega)).trans hb3_16;have hb6_18:=(hk18 _ (by omega)).trans hb6_16;have hb16_18:=(hk18 _ (by omega)).trans hb16;refine u_step0 (g_sta rfl (congrArg SV.d (encV_eq _)) th27 rfl hb18 (by simp [valCells]) fun o19 hb19 hk19=>?_);have hb2_19:=(hk19 _ (by omega)).trans hb2_18;have hb3_19:=(hk19 _ (by omega)).trans hb3_18;have hb6_19:=(hk19 _ (by omega)).trans hb6_18;have hb16_19:=(hk19 _ (by omega)).trans hb16_18;refine ua (u_nil (wr (ug th27 hb19 ?_)));refine u_step0 (g_sta rfl rfl th27 rfl hb3_19 (by first | (simp;done) | (simp [D.leaves,D.width,valCells];done) | decide) fun o21 hb21 hk21=>?_);have hb2_21:=(hk21 _ (by omega)).trans hb2_19;have hb6_21:=(hk21 _ (by omega)).trans hb6_19;have hb16_21:=(hk21 _ (by omega)).trans hb16_19;have hb19_21:=(hk21 _ (by omega)).trans hb19;refine u_nil (WP.ret ?_);refine retC1_ok (resis_agg rfl th27 rfl hb21 rfl rfl rfl) ?_ (by omega) (fun t ht=>(hk21 t (by omega)).trans ((hk19 t (by omega)).trans ((hk18 t (by omega)).trans ((hk16 t (by omega)).trans ((hk14 t (by omega)).trans ((hk13 t (by omega)).trans ((hk6 t (by omega)).trans ((hk5 t (by omega)).trans ((hk3 t (by omega)).trans ((hk2 t (by omega))))))))))));rw [cutR_yes ha hg];exact (encV_eq _).symm
theorem may_parts {k i:Int} {t:Str} {xs:List Val} {ns:List Str}:mayV (.mk k i t xs ns)=true↔(xs.all mayV=true∧ns.all nameV=true)∧kindOk k i t xs.length ns=true:=by
 rw [mayV,maysV_all,Bool.and_eq_true,Bool.and_eq_true]
theorem may_swap {v x:Val} {j:Nat} (h:mayV v=true) (hx:mayV x=true):mayV (swapV v j x)=true:=by
 obtain ⟨k,i,t,xs,ns⟩:=v;rw [may_parts] at h;rw [swapV,may_parts];refine ⟨⟨?_,h.1.2⟩,by rw [List.length_set];exact h.2⟩;rw [List.all_eq_true];intro y hy;rcases List.mem_or_eq_of_mem_set hy with h1 | rfl
 ·exact List.all_eq_true.1 h.1.1 _ h1
 ·exact hx
theorem idx_no_mem {ns:List Str} {s:Str} (h:idxS ns s < 0):s ∉ ns:=by
 intro hm;unfold idxS firstI at h;rw [if_pos (List.any_eq_true.2 ⟨s,hm,decide_eq_true rfl⟩)] at h;omega
theorem may_grow7 {v x:Val} {s:Str} (h:mayV v=true) (h7:v.kind=7) (hs:nameV s=true) (h0:placeV v s < 0) (hx:mayV x=true):mayV (growV v s x)=true:=by
 obtain ⟨k,i,t,xs,ns⟩:=v;simp only [Val.kind] at h7;subst h7;rw [place7 rfl] at h0;have hn:=idx_no_mem h0;rw [may_parts] at h;have e:growV (.mk 7 i t xs ns) s x=.mk 7 i t (xs++[x]) (ns++[s]):=rfl;rw [e,may_parts];refine ⟨⟨by rw [List.all_append,h.1.1];simp [hx],by rw [List.all_append,h.1.2];simp [hs]⟩,?_⟩;have h2:=h.2;simp only [kindOk] at h2 ⊢;simp [twiceV] at h2 ⊢;refine ⟨⟨h2.1.1,h2.1.2⟩,?_⟩;rw [List.nodup_append];exact ⟨h2.2,by simp,fun a ha b hb e=>hn (by simp at hb;rw [← hb,← e];exact ha)⟩
theorem may_grow6 {v x:Val} {s:Str} (h:mayV v=true) (h6:v.kind=6) (hx:mayV x=true):mayV (growV v s x)=true:=by
 obtain ⟨k,i,t,xs,ns⟩:=v;simp only [Val.kind] at h6;subst h6;rw [may_parts] at h;have e:growV (.mk 6 i t xs ns) s x=.mk 6 i t (xs++[x]) ns:=rfl;rw [e,may_parts];refine ⟨⟨by rw [List.all_append,h.1.1];simp [hx],h.1.2⟩,?_⟩;have h2:=h.2;simp only [kindOk] at h2 ⊢;simpa using h2
theorem may_without {v:Val} {j:Nat} (h:mayV v=true) (hk:v.kind=6∨v.kind=7) (hj:j < v.items.length):mayV (withoutV v j)=true:=by
 unfold withoutV;split
 ·exact may_swap h (by decide)
 ·rename_i h6;obtain ⟨k,i,t,xs,ns⟩:=v;simp only [Val.kind,Val.int,Val.text,Val.items,Val.names] at *;have h7:k=7:=by rcases hk with e | e;exact absurd e h6;exact e
  subst h7;rw [may_parts] at h;rw [may_parts];have h2:=h.2;simp only [kindOk] at h2 ⊢;simp [twiceV] at h2 ⊢;refine ⟨⟨?_,?_⟩,⟨h2.1.1,?_⟩,?_⟩
  ·exact fun y hy=>List.all_eq_true.1 h.1.1 _ (List.mem_of_mem_eraseIdx hy)
  ·exact fun y hy=>List.all_eq_true.1 h.1.2 _ (List.mem_of_mem_eraseIdx hy)
  ·rw [List.length_eraseIdx,List.length_eraseIdx,if_pos (by omega),if_pos (by omega),h2.1.2]
  ·exact h2.2.sublist (List.eraseIdx_sublist _ _)
theorem may_cutI {y:Val} {n:Nat} (h:mayV y=true) (h6:y.kind=6):mayV (cutI n y)=true:=by
 obtain ⟨k,i,t,xs,ns⟩:=y;simp only [Val.kind] at h6;subst h6;rw [may_parts] at h;have e:cutI n (.mk 6 i t xs ns)=.mk 6 i t (xs.take n) ns:=rfl;rw [e,may_parts];refine ⟨⟨?_,h.1.2⟩,?_⟩
 ·rw [List.all_eq_true];exact fun z hz=>List.all_eq_true.1 h.1.1 _ (List.mem_of_mem_take hz)
 ·have h2:=h.2;simp only [kindOk] at h2 ⊢;simpa using h2
theorem may_cutV {v:Val} {n j:Nat} (h:mayV v=true) (hj:j < v.items.length):mayV (cutV n v j)=true:=by
 obtain ⟨y,hy⟩:∃ y,v.items[j]?=some y:=item_ex hj;by_cases hc:y.kind≠6∨y.items.length≤n
 ·rw [cut_no hy hc];exact h
 ·rw [cut_yes hy hc];simp only [not_or,ne_eq,Decidable.not_not] at hc;exact may_swap h (may_cutI (may_item h (List.mem_of_getElem? hy)) hc.1)
theorem may_at {f:Val→Nat→Val} (hf:∀ v j,mayV v=true→(v.kind=6∨v.kind=7)→j < v.items.length→mayV (f v j)=true∧(f v j).kind=v.kind):∀ (p:List Str) (v:Val),mayV v=true→mayV (atV f v p)=true∧(atV f v p).kind=v.kind
 | [],v,h=>⟨h,rfl⟩
 | s :: p,v,h=>by
  by_cases h0:placeV v s < 0
  ·rw [at_no h0];exact ⟨h,rfl⟩
  ·have hlt:=place_lt h s;obtain ⟨y,hy⟩:∃ y,v.items[(placeV v s).toNat]?=some y:=item_ex (by omega);by_cases hp:p=[]
   ·subst hp;rw [at_do h0];exact hf _ _ h (place_kind (s:=s) (by omega)) (by omega)
   ·rw [at_in h0 hp hy];exact ⟨may_swap h (may_at hf p y (may_item h (List.mem_of_getElem? hy))).1,rfl⟩
theorem may_setP:∀ (p:List Str) (v x:Val),mayV v=true→p.all nameV=true→mayV x=true→(setP v p x).2=true→mayV (setP v p x).1=true∧(p≠[]→(setP v p x).1.kind=v.kind)
 | [],v,x,h,hp,hx,h2=>⟨hx,fun e=>absurd rfl e⟩
 | s :: p,v,x,h,hp,hx,h2=>by
  rw [List.all_cons,Bool.and_eq_true] at hp;by_cases h0:0≤placeV v s
  ·have hlt:=place_lt h s;obtain ⟨y,hy⟩:∃ y,v.items[(placeV v s).toNat]?=some y:=item_ex (by omega);rw [setP_in h0 hy] at h2 ⊢;exact ⟨may_swap h (may_setP p y x (may_item h (List.mem_of_getElem? hy)) hp.2 hx h2).1,fun _=>rfl⟩
  ·by_cases h7:v.kind=7
   ·rw [setP_doc h0 h7] at h2 ⊢;exact ⟨may_grow7 h h7 hp.1 (by omega) (may_setP p _ x (by decide) hp.2 hx h2).1,fun _=>rfl⟩
   ·by_cases h6:v.kind=6
    ·rw [setP_arr h0 h7 h6] at h2 ⊢;exact ⟨may_grow6 h h6 hx,fun _=>rfl⟩
    ·rw [setP_no h0 h7 h6] at h2;cases h2
theorem set_RP:∀ (p:List Str) (v x:Val),mayV v=true→(setR v p x).2=(setP v p x).2∧((setP v p x).2=true→(setR v p x).1=(setP v p x).1)
 | [],v,x,h=>⟨rfl,fun _=>rfl⟩
 | s :: p,v,x,h=>by
  by_cases h0:0≤placeV v s
  ·have hlt:=place_lt h s;obtain ⟨y,hy⟩:∃ y,v.items[(placeV v s).toNat]?=some y:=item_ex (by omega);have ih:=set_RP p y x (may_item h (List.mem_of_getElem? hy));rw [setP_in h0 hy,setR_in (by omega) hy];exact ⟨ih.1,fun e=>by rw [ih.2 e]⟩
  ·by_cases h7:v.kind=7
   ·have ih:=set_RP p (.mk 7 0 [] [] []) x (by decide);rw [setP_doc h0 h7,setR_doc (by omega) h7];exact ⟨ih.1,fun e=>by rw [ih.2 e]⟩
   ·by_cases h6:v.kind=6
    ·rw [setP_arr h0 h7 h6];by_cases hA:v.kind=6∧p=[]∧stepI s=(v.items.length:Int)
     ·rw [setR_arr (by omega) h7 hA];refine ⟨?_,fun _=>rfl⟩;have h1:ixB s=true:=by unfold ixB;simp only [decide_eq_true_eq];omega
      have h3:ixI s=(v.items.length:Int):=by unfold ixI;rw [if_pos (by omega)];exact hA.2.2
      have h4:(p.length:Int)+1=1:=by rw [hA.2.1];rfl
      simp only [h1,h3,h4,decide_true,Bool.and_true]
     ·rw [setR_no (by omega) h7 hA];have h1:(ixB s && decide (ixI s=(v.items.length:Int)) && decide ((p.length:Int)+1=1))=false:=by
       rw [Bool.eq_false_iff];intro e;simp only [Bool.and_eq_true,decide_eq_true_eq,ixB] at e;refine hA ⟨h6,List.length_eq_zero_iff.1 (by omega),?_⟩;have h3:=e.1.2;unfold ixI at h3;rw [if_pos e.1.1] at h3;exact h3
      exact ⟨h1.symm,fun e=>by simp only at e;rw [h1] at e;cases e⟩
    ·rw [setP_no h0 h7 h6,setR_no (by omega) h7 (fun e=>h6 e.1)];exact ⟨rfl,fun _=>rfl⟩
theorem swap_self {v y:Val} {j:Nat} (h:v.items[j]?=some y):swapV v j y=v:=by
 obtain ⟨k,i,t,xs,ns⟩:=v;simp only [Val.items] at h;obtain ⟨hj,rfl⟩:=List.getElem?_eq_some_iff.1 h;simp only [swapV,Val.kind,Val.int,Val.text,Val.items,Val.names,List.set_getElem_self]
theorem cut_RP (n:Nat):∀ (p:List Str) (v:Val),mayV v=true→p≠[]→cutR v p n=atV (cutV n) v p
 | [],v,h,e=>absurd rfl e
 | s :: p,v,h,_=>by
  by_cases h0:placeV v s < 0
  ·rw [at_no h0,cutR,get_no h0]
  ·have hlt:=place_lt h s;obtain ⟨y,hy⟩:∃ y,v.items[(placeV v s).toNat]?=some y:=item_ex (by omega);by_cases hp:p=[]
   ·subst hp;rw [at_do h0,cutR,get_step (by omega) hy,getV];simp only;by_cases hc:y.kind≠6∨y.items.length≤n
    ·rw [if_pos hc,cut_no hy hc]
    ·rw [if_neg hc,cut_yes hy hc,setR_in h0 hy,setR]
   ·have ih:=cut_RP n p y (may_item h (List.mem_of_getElem? hy)) hp;rw [at_in h0 hp hy,← ih,cutR,get_step (by omega) hy,cutR];cases hg:getV y p with
    | none=>simp only;rw [swap_self hy]
    | some a=>
     simp only;split
     ·rw [swap_self hy]
     ·rw [setR_in h0 hy]
theorem do_may {v:Val} {d:Dlt} (hv:mayV v=true) (h7:v.kind=7) (hd:mayD d=true) (he:doE v d=0):mayV (doV v d)=true∧(doV v d).kind=7:=by
 rw [mayD,Bool.and_eq_true] at hd;have hp:d.path.all nameV=true:=by have:=hd.1;simp only [pathV,Bool.and_eq_true] at this;exact this.1.1
 have hne:=path_ne hd.1;unfold doV;split
 ·rename_i h1;have hx:mayV d.value=true:=by
   have h3:=hd.2;rw [if_pos h1,Bool.and_eq_true,decide_eq_true_eq] at h3;exact check_may h3.1
  have hs:(setP v d.path d.value).2=true:=by
   rw [doE,if_pos h1] at he;cases hy:(setP v d.path d.value).2 with
   | true=>rfl
   | false=>
    have hA:¬ (v.kind=7∧mayV d.value=false):=fun e=>by rw [hx] at e;cases e.2
    have hz:chkT v d.path=0:=by unfold chkT;rw [if_neg (by simp [h7,hv]),if_pos hd.1]
    rw [(set_c hA hz hy).2] at he;cases he
  have:=may_setP d.path v d.value hv hp hx hs;exact ⟨this.1,(this.2 hne).trans h7⟩
 ·split
  ·have:=may_at (f:=withoutV) (fun v j h hk hj=>⟨may_without h hk hj,by unfold withoutV;split <;> rfl⟩) d.path v hv;exact ⟨this.1,this.2.trans h7⟩
  ·have:=may_at (f:=cutV d.n.toNat) (fun v j h hk hj=>⟨may_cutV h hj,by unfold cutV;split <;> rfl⟩) d.path v hv;exact ⟨this.1,this.2.trans h7⟩
theorem chk_ok {v:Val} {d:Dlt} (hv:mayV v=true) (h7:v.kind=7) (hd:mayD d=true):chkT v d.path=0:=by
 rw [mayD,Bool.and_eq_true] at hd;unfold chkT;rw [if_neg (by simp [h7,hv]),if_pos hd.1]
theorem do_set {v:Val} {d:Dlt} (hv:mayV v=true) (h7:v.kind=7) (hd:mayD d=true) (h1:d.kind=1):((setR v d.path d.value).2=true→doE v d=0∧(setR v d.path d.value).1=doV v d)∧((setR v d.path d.value).2=false→doE v d=40):=by
 have hz:=chk_ok hv h7 hd;rw [mayD,Bool.and_eq_true] at hd;have hx:mayV d.value=true:=by
  have h3:=hd.2;rw [if_pos h1,Bool.and_eq_true,decide_eq_true_eq] at h3;exact check_may h3.1
 have hA:¬ (v.kind=7∧mayV d.value=false):=fun e=>by rw [hx] at e;cases e.2
 have hr:=set_RP d.path v d.value hv;rw [hr.1,doE,if_pos h1,doV,if_pos h1];exact ⟨fun e=>⟨(set_d hA hz e).2,hr.2 e⟩,fun e=>(set_c hA hz e).2⟩
theorem do_drop {v:Val} {d:Dlt} (hv:mayV v=true) (h7:v.kind=7) (hd:mayD d=true) (h2:d.kind=2):doE v d=0∧atV withoutV v d.path=doV v d:=by
 have hz:=chk_ok hv h7 hd;rw [doE,if_neg (by omega),if_pos h2,doV,if_neg (by omega),if_pos h2];exact ⟨hz,rfl⟩
theorem do_cutR {v:Val} {d:Dlt} (hv:mayV v=true) (h7:v.kind=7) (hd:mayD d=true) (h1:¬ d.kind=1) (h2:¬ d.kind=2):d.kind=3∧0≤d.n∧doE v d=0∧cutR v d.path d.n.toNat=doV v d:=by
 have hz:=chk_ok hv h7 hd;rw [mayD,Bool.and_eq_true,if_neg h1,if_neg h2] at hd;have h3:d.kind=3∧0≤d.n:=by
  have:=hd.2;split at this
  ·rename_i h3;simp only [Bool.and_eq_true,decide_eq_true_eq] at this;exact ⟨h3,this.1.2⟩
  ·cases this
 refine ⟨h3.1,h3.2,?_,?_⟩
 ·rw [doE,if_neg h1,if_neg h2,cutE,if_pos hz,if_neg (by omega)]
 ·rw [doV,if_neg h1,if_neg h2];exact cut_RP _ _ _ hv (path_ne hd.1)
theorem s81c (p:List Str) (v x:Val) (hmy:mayV v=true) (hsz:szV v≤1099511627776):PSpec Tryz.prog 81 [.d (.agg (valCells v)),.d (.sl 1 (p.map .str)),.d (.agg (valCells x))] (.tup ([encV (setR v p x).1,.bool (setR v p x).2].map .d)):=by
 have h:=s81 p v x hmy hsz;rw [encV_eq v,encV_eq x] at h;exact h
theorem s82c (p:List Str) (v:Val) (hne:p≠[]) (hmy:mayV v=true) (hsz:szV v≤1099511627776):PSpec Tryz.prog 82 [.d (.agg (valCells v)),.d (.sl 1 (p.map .str))] (.d (encV (atV withoutV v p))):=by
 have h:=s82 p v hne hmy hsz;rw [encV_eq v] at h;exact h
theorem s83c (v:Val) (p:List Str) (n:Int) (h0:0≤n) (hmy:mayV v=true) (hsz:szV v≤1099511627776):PSpec Tryz.prog 83 [.d (.agg (valCells v)),.d (.sl 1 (p.map .str)),.d (.int .i64 n)] (.d (encV (cutR v p n.toNat))):=by
 have h:=s83 v p n h0 hmy hsz;rw [encV_eq v] at h;exact h
def refD (v:Val) (l:List Dlt):D:=if (appP l v).2=0 then encV (appP l v).1 else zAgg
theorem appP_st {l:List Dlt} {i:Nat} {d:Dlt} {u w:Val} {r:Val×Int} (h:i < l.length) (hd:d=l[i]'h) (he:doE u d=0) (hw:w=doV u d) (ha:appP (l.drop i) u=r):appP (l.drop (i+1)) w=r:=by
 rw [← ha,List.drop_eq_getElem_cons h,← hd,appP,if_pos he,hw]
theorem fn33:FnOkC Tryz.prog 33 65 [.cell 4 27,.tmp 5] (bodyOf Tryz.f33):=⟨Tryz.f33,Tryz.func33,by kernel_rfl,by decide,by kernel_rfl,by kernel_rfl⟩
theorem s33 (v:Val) (l:List Dlt) (hall:∀ d∈l,mayD d=true) (hlen:l.length≤64) (hmy:mayV v=true) (h7:v.kind=7) (hsz:szV v≤274877906944) (hds:∀ d∈l,dS d≤8589934592):PSpec Tryz.prog 33 [.d (encV v),.d (.sl 8 (l.map encD))] (.tup (([refD v l,.bool (decide ((appP l v).2=0))]).map .d)):=by
 obtain ⟨kd,it,tx,xs,ns⟩:=v;refine PSpec.of2C tabOk fn33 (by simp) fun o nk=>?_;refine wr ?_;refine u_step (g_box rfl fun o2 hb2 hk2=>?_);refine u_step (g_alloc th27 rfl fun o3 hb3 hk3=>?_);have hb2_3:=(hk3 _ (by omega)).trans hb2;refine ua (u_nil (WP.seq fun K4 hK4=>?_));refine wr (ua (u_nil (WP.block ?_)));refine WP.loopL (ι:=Nat×Val×(Nat→Option AO)×Nat) (fun ⟨i,u,o2,nk2⟩=>⟨al [(1,.d (.sl 8 (l.map encD))),(2,.loc nk 0),(4,.loc (nk+1) 0),(5,.d (.bool false)),(6,.d (.int .i64 i))],o2,nk2⟩) (fun ⟨i,u,o2,nk2⟩=>i≤l.length∧nk+2≤nk2∧o2 nk=some (.box ((valCells u).map .d))∧o2 (nk+1)=some (.box [.d (.int .i64 0),.d (.int .i64 0),.d (.str []),.d .nil,.d .nil])∧(∀ t,t < nk→o2 t=o t)∧appP (l.drop i) u=appP l (.mk kd it tx xs ns)∧szV u≤274877906944+i * 8589934592∧mayV u=true∧u.kind=7) (fun ⟨i,u,o2,nk2⟩=>l.length - i) (fun ⟨i,u,o2,nk2⟩ hA=>?_) ⟨0,(.mk kd it tx xs ns),o3,((nk+1)+1)⟩ ?_ ?_
 ·
  obtain ⟨hle,hnk,hob,hzb,hfr,hap2,hsu,hmu,h7u⟩:=hA;refine WP.seq fun K6 hK6=>?_;refine wr ?_;refine um ?_;refine um ?_;refine un th28 ?_;refine ub ?_;refine u_nil ?_;refine wc (fun hc8=>?_) (fun hc8=>?_) <;> try simp only [Q0,Q1,Q2,Q3,Q4,Q5,Q6,Q7,Q8,ge_iff_le,gt_iff_lt] at hc8
  ·
   refine WP.skip (hK6 _ (WP.seq fun K9 hK9=>?_));refine WP.block ?_;have hil:i < l.length:=by have hgo:=hc8;first | omega | (rw [List.length_map] at hgo;omega) | (simp at hgo;omega) | (exact absurd hgo id)
   obtain ⟨d,hd⟩:∃ d,d=l[i]:=⟨_,rfl⟩;have hgd:(l.map encD)[((i:Nat):Int).toNat]?=some (encD d):=by rw [hd];simp [hil]
   have hmd:mayD d=true:=hall d (hd ▸ List.getElem_mem hil);refine wr ?_;refine um ?_;refine um ?_;refine u_step (o_ia_sl rfl rfl th28 rfl th83 rfl (Int.natCast_nonneg _) hgd ?_);refine uF th83 th3 ?_;refine uL th3 ?_;refine u_nil ?_;refine WP.block ?_;refine wr ?_;refine ub ?_;refine ua ?_;refine u_nil ?_;refine wc (fun hc12=>?_) (fun hc12=>?_) <;> try simp only [Q0,Q1,Q2,Q3,Q4,Q5,Q6,Q7,Q8,ge_iff_le,gt_iff_lt] at hc12
   ·
    have hk1:d.kind=1:=by have hgo:=hc12;simpa using hgo
    have hst:=do_set hmu h7u hmd hk1;refine WP.seq fun K13 hK13=>?_;refine WP.dr2 [.q 0 1,.q 0 1,.q 0 1,.q 0 1,.q 0 1,.q 0 1,.q 0 1,.q 0 1,.q 0 1,.q 0 1,.q 0 1,.q 0 1,.q 0 1,.q 0 1,.q 0 2,.w 0,.w 1,.q 2 2] [15,16] (nk2+1) (nk2+1) tabOk (by kernel_rfl) rfl (by kernel_rfl) (by kernel_rfl) ?_;apply Exists.intro;apply Exists.intro;refine e_step2 rfl rfl (o_ld_agg rfl th27 rfl hob rfl rfl rfl ⟨rfl,rfl,rfl⟩) ?_ ?_;rotate_left;refine e_step2 rfl rfl (o_move rfl ⟨rfl,rfl,rfl⟩) ?_ ?_;rotate_left;refine e_step2 rfl rfl (o_move rfl ⟨rfl,rfl,rfl⟩) ?_ ?_;rotate_left;refine e_step2 rfl rfl (o_ia_sl rfl rfl th28 rfl th83 rfl (Int.natCast_nonneg _) hgd ⟨rfl,rfl,rfl⟩) ?_ ?_;rotate_left;refine e_step2 rfl rfl (o_fa_el rfl th83 rfl rfl th22 (by decide) rfl ⟨rfl,rfl,rfl⟩) ?_ ?_;rotate_left;refine e_step2 rfl rfl (o_ld_el rfl th22 rfl rfl ⟨rfl,rfl,rfl⟩) ?_ ?_;rotate_left;refine e_step2 rfl rfl (o_move rfl ⟨rfl,rfl,rfl⟩) ?_ ?_;rotate_left;refine e_step2 rfl rfl (o_move rfl ⟨rfl,rfl,rfl⟩) ?_ ?_;rotate_left;refine e_step2 rfl rfl (o_ia_sl rfl rfl th28 rfl th83 rfl (Int.natCast_nonneg _) hgd ⟨rfl,rfl,rfl⟩) ?_ ?_;rotate_left;refine e_step2 rfl rfl (o_fa_el rfl th83 rfl rfl th27 (by decide) rfl ⟨rfl,rfl,rfl⟩) ?_ ?_;rotate_left;refine e_step2 rfl rfl (o_ld_el rfl th27 rfl rfl ⟨rfl,rfl,rfl⟩) ?_ ?_;rotate_left;refine e_step2 rfl rfl (o_pcall (s81c d.path u d.value hmu (by omega)) rfl ⟨rfl,rfl,rfl⟩) ?_ ?_;rotate_left;refine e_step2 rfl rfl (o_moveV (v:=.tup _) rfl ⟨rfl,rfl,rfl⟩) ?_ ?_;rotate_left;refine e_step2 rfl rfl (o_ext rfl rfl ⟨rfl,rfl,rfl⟩) ?_ ?_;rotate_left;refine e_step3 rfl rfl rfl (o_ext rfl rfl ⟨rfl,rfl,rfl⟩) ?_ ?_ ?_;rotate_left 2;refine e_w rfl rfl (o_alloc th27 rfl ⟨rfl,rfl,rfl⟩) ?_;refine e_w0 rfl rfl (o_st_agg rfl (congrArg SV.d (encV_eq _)) th27 rfl (upd_same _ _ _) (by simp [valCells]) ⟨rfl,rfl,rfl⟩) ?_;refine e_step rfl (o_assign rfl ⟨rfl,rfl,rfl⟩) ?_;refine e_nil rfl fun o16 ho16=>?_;have hbB_16:=(ho16 _).trans ((upd_ne _ _ (by omega)).trans ((upd_ne _ _ (by omega)).trans hob));have hbZ_16:=(ho16 _).trans ((upd_ne _ _ (by omega)).trans ((upd_ne _ _ (by omega)).trans hzb));have hbb14_16:=(ho16 _).trans (upd_same _ _ _);have hk16:∀ t,t < nk→o16 t=o2 t:=fun t ht=>(ho16 t).trans ((upd_ne _ _ (by omega)).trans (upd_ne _ _ (by omega)))
    ·
     refine hK13 _ ?_;refine WP.seq fun K17 hK17=>?_;refine wr ?_;refine um ?_;refine uN ?_;refine u_nil ?_;refine wc (fun hc19=>?_) (fun hc19=>?_) <;> try simp only [Q0,Q1,Q2,Q3,Q4,Q5,Q6,Q7,Q8,ge_iff_le,gt_iff_lt] at hc19
     ·
      have hy:(setR u d.path d.value).2=false:=by have hgo:=hc19;simpa using hgo
      refine wr ?_;refine u_step (o_bu rfl th27 rfl rfl ?_);refine u_step0 (g_sta rfl rfl th27 rfl hbZ_16 (by first | (simp;done) | (simp [D.leaves,D.width,valCells];done) | decide) fun o21 hb21 hk21=>?_);have hbB_21:=(hk21 _ (by omega)).trans hbB_16;have hbb14_21:=(hk21 _ (by omega)).trans hbb14_16;refine ua (u_nil (WP.ret ?_));refine retC_ok (resis_agg rfl th27 rfl hb21 rfl rfl rfl) rfl ?_ ?_ (by omega) (fun t ht=>(hk21 t (by omega)).trans ((hk16 t (by omega)).trans ((hfr t (by omega)))))
      ·have hE:(appP l (.mk kd it tx xs ns)).2=40:=by rw [← hap2,appP_no hil hd (by rw [hst.2 hy];decide)];exact hst.2 hy
       rw [refD,if_neg (by rw [hE];decide)];rfl
      ·have hE:(appP l (.mk kd it tx xs ns)).2=40:=by rw [← hap2,appP_no hil hd (by rw [hst.2 hy];decide)];exact hst.2 hy
       rw [hE];rfl
     ·
      have hy:(setR u d.path d.value).2=true:=by have hgo:=hc19;simpa using hgo
      refine WP.skip (hK17 _ (WP.reg tabOk rfl ?_));refine ug th27 hbb14_16 ?_;refine u_step0 (g_sta rfl rfl th27 rfl hbB_16 (by first | (simp;done) | (simp [D.leaves,D.width,valCells];done) | decide) fun o22 hb22 hk22=>?_);have hbZ_22:=(hk22 _ (by omega)).trans hbZ_16;have hbb14_22:=(hk22 _ (by omega)).trans hbb14_16;refine u_nil (hK9 _ (WP.reg tabOk rfl ?_));refine um (ub (ua (u_nil ?_)));have hdu:szV (doV u d)≤szV u+dS d:=szV_do hmu;have hdd:=hds d (hd ▸ List.getElem_mem hil);have hmu2:=do_may hmu h7u (hall d (hd ▸ List.getElem_mem hil)) (hst.1 hy).1;refine ⟨⟨i+1,doV u d,o22,(nk2+1)⟩,⟨by omega,by omega,?_,hbZ_22,(fun t ht=>(hk22 t (by omega)).trans ((hk16 t (by omega)).trans ((hfr t (by omega))))),appP_st hil hd (hst.1 hy).1 rfl hap2,by omega,hmu2.1,hmu2.2⟩,by simp only;omega,?_⟩
      ·have hb:=hb22
       first | (rw [← (hst.1 hy).2];exact hb) | exact hb
      refine Le.al ?_;simp only [List.forall_mem_cons];exact ⟨rfl,rfl,rfl,rfl,cnt (by omega),by simp⟩
    exact o_ld_agg rfl th27 rfl ((upd_ne _ _ (by omega)).trans hob) rfl rfl rfl ⟨rfl,rfl,rfl⟩;exact o_move rfl ⟨rfl,rfl,rfl⟩;exact o_move rfl ⟨rfl,rfl,rfl⟩;exact o_ia_sl rfl rfl th28 rfl th83 rfl (Int.natCast_nonneg _) hgd ⟨rfl,rfl,rfl⟩;exact o_fa_el rfl th83 rfl rfl th22 (by decide) rfl ⟨rfl,rfl,rfl⟩;exact o_ld_el rfl th22 rfl rfl ⟨rfl,rfl,rfl⟩;exact o_move rfl ⟨rfl,rfl,rfl⟩;exact o_move rfl ⟨rfl,rfl,rfl⟩;exact o_ia_sl rfl rfl th28 rfl th83 rfl (Int.natCast_nonneg _) hgd ⟨rfl,rfl,rfl⟩;exact o_fa_el rfl th83 rfl rfl th27 (by decide) rfl ⟨rfl,rfl,rfl⟩;exact o_ld_el rfl th27 rfl rfl ⟨rfl,rfl,rfl⟩;exact o_pcall (s81c d.path u d.value hmu (by omega)) rfl ⟨rfl,rfl,rfl⟩;exact o_moveV (v:=.tup _) rfl ⟨rfl,rfl,rfl⟩;exact o_ext rfl rfl ⟨rfl,rfl,rfl⟩;exact o_ext rfl rfl ⟨rfl,rfl,rfl⟩;exact o_ext rfl rfl ⟨rfl,rfl,rfl⟩
   ·
    have hk1:¬ d.kind=1:=by have hgo:=hc12;simpa using hgo
    refine wr ?_;refine ub ?_;refine ua ?_;refine u_nil ?_;refine wc (fun hc24=>?_) (fun hc24=>?_) <;> try simp only [Q0,Q1,Q2,Q3,Q4,Q5,Q6,Q7,Q8,ge_iff_le,gt_iff_lt] at hc24
    ·
     have hk2:d.kind=2:=by have hgo:=hc24;simpa using hgo
     have hst:=do_drop hmu h7u hmd hk2;refine WP.dr1 [.q 0 0,.q 0 0,.q 0 0,.q 0 0,.q 0 0,.q 0 0,.q 0 0,.w 0] [7] nk2 tabOk (by kernel_rfl) rfl (by kernel_rfl) (by kernel_rfl) ?_;apply Exists.intro;refine e_step rfl (o_ld_agg rfl th27 rfl hob rfl rfl rfl ⟨rfl,rfl,rfl⟩) ?_;refine e_step rfl (o_move rfl ⟨rfl,rfl,rfl⟩) ?_;refine e_step rfl (o_move rfl ⟨rfl,rfl,rfl⟩) ?_;refine e_step rfl (o_ia_sl rfl rfl th28 rfl th83 rfl (Int.natCast_nonneg _) hgd ⟨rfl,rfl,rfl⟩) ?_;refine e_step rfl (o_fa_el rfl th83 rfl rfl th22 (by decide) rfl ⟨rfl,rfl,rfl⟩) ?_;refine e_step rfl (o_ld_el rfl th22 rfl rfl ⟨rfl,rfl,rfl⟩) ?_;refine e_step rfl (o_pcall (s82c d.path u (List.ne_nil_of_length_pos (mayD_path hmd)) hmu (by omega)) rfl ⟨rfl,rfl,rfl⟩) ?_;refine e_w0 rfl rfl (o_st_agg rfl (congrArg SV.d (encV_eq _)) th27 rfl hob (by simp [valCells]) ⟨rfl,rfl,rfl⟩) ?_;refine e_nil rfl fun o26 ho26=>?_;have hbZ_26:=(ho26 _).trans ((upd_ne _ _ (by omega)).trans hzb);have hbB_26:=(ho26 _).trans (upd_same _ _ _);have hk26:∀ t,t < nk→o26 t=o2 t:=fun t ht=>(ho26 t).trans (upd_ne _ _ (by omega));refine hK9 _ (WP.reg tabOk rfl ?_);refine um (ub (ua (u_nil ?_)));have hdu:szV (doV u d)≤szV u+dS d:=szV_do hmu;have hdd:=hds d (hd ▸ List.getElem_mem hil);have hmu2:=do_may hmu h7u (hall d (hd ▸ List.getElem_mem hil)) hst.1;refine ⟨⟨i+1,doV u d,o26,nk2⟩,⟨by omega,by omega,?_,hbZ_26,(fun t ht=>(hk26 t (by omega)).trans ((hfr t (by omega)))),appP_st hil hd hst.1 rfl hap2,by omega,hmu2.1,hmu2.2⟩,by simp only;omega,?_⟩
     ·have hb:=hbB_26
      first | (rw [← hst.2];exact hb) | exact hb
     refine Le.al ?_;simp only [List.forall_mem_cons];exact ⟨rfl,rfl,rfl,rfl,cnt (by omega),by simp⟩
    ·
     have hk2:¬ d.kind=2:=by have hgo:=hc24;simpa using hgo
     have hst:=do_cutR hmu h7u hmd hk1 hk2;refine wr ?_;refine ub ?_;refine ua ?_;refine u_nil ?_;refine wc (fun hc28=>?_) (fun hc28=>?_) <;> try simp only [Q0,Q1,Q2,Q3,Q4,Q5,Q6,Q7,Q8,ge_iff_le,gt_iff_lt] at hc28
     ·
      refine WP.dr1 [.q 0 0,.q 0 0,.q 0 0,.q 0 0,.q 0 0,.q 0 0,.q 0 0,.q 0 0,.q 0 0,.q 0 0,.q 0 0,.q 0 0,.w 0] [12] nk2 tabOk (by kernel_rfl) rfl (by kernel_rfl) (by kernel_rfl) ?_;apply Exists.intro;refine e_step rfl (o_ld_agg rfl th27 rfl hob rfl rfl rfl ⟨rfl,rfl,rfl⟩) ?_;refine e_step rfl (o_move rfl ⟨rfl,rfl,rfl⟩) ?_;refine e_step rfl (o_move rfl ⟨rfl,rfl,rfl⟩) ?_;refine e_step rfl (o_ia_sl rfl rfl th28 rfl th83 rfl (Int.natCast_nonneg _) hgd ⟨rfl,rfl,rfl⟩) ?_;refine e_step rfl (o_fa_el rfl th83 rfl rfl th22 (by decide) rfl ⟨rfl,rfl,rfl⟩) ?_;refine e_step rfl (o_ld_el rfl th22 rfl rfl ⟨rfl,rfl,rfl⟩) ?_;refine e_step rfl (o_move rfl ⟨rfl,rfl,rfl⟩) ?_;refine e_step rfl (o_move rfl ⟨rfl,rfl,rfl⟩) ?_;refine e_step rfl (o_ia_sl rfl rfl th28 rfl th83 rfl (Int.natCast_nonneg _) hgd ⟨rfl,rfl,rfl⟩) ?_;refine e_step rfl (o_fa_el rfl th83 rfl rfl th3 (by decide) rfl ⟨rfl,rfl,rfl⟩) ?_;refine e_step rfl (o_ld_el rfl th3 rfl rfl ⟨rfl,rfl,rfl⟩) ?_;refine e_step rfl (o_pcall (s83c u d.path d.n (do_cutR hmu h7u hmd hk1 hk2).2.1 hmu (by omega)) rfl ⟨rfl,rfl,rfl⟩) ?_;refine e_w0 rfl rfl (o_st_agg rfl (congrArg SV.d (encV_eq _)) th27 rfl hob (by simp [valCells]) ⟨rfl,rfl,rfl⟩) ?_;refine e_nil rfl fun o30 ho30=>?_;have hbZ_30:=(ho30 _).trans ((upd_ne _ _ (by omega)).trans hzb);have hbB_30:=(ho30 _).trans (upd_same _ _ _);have hk30:∀ t,t < nk→o30 t=o2 t:=fun t ht=>(ho30 t).trans (upd_ne _ _ (by omega));refine hK9 _ (WP.reg tabOk rfl ?_);refine um (ub (ua (u_nil ?_)));have hdu:szV (doV u d)≤szV u+dS d:=szV_do hmu;have hdd:=hds d (hd ▸ List.getElem_mem hil);have hmu2:=do_may hmu h7u (hall d (hd ▸ List.getElem_mem hil)) hst.2.2.1;refine ⟨⟨i+1,doV u d,o30,nk2⟩,⟨by omega,by omega,?_,hbZ_30,(fun t ht=>(hk30 t (by omega)).trans ((hfr t (by omega)))),appP_st hil hd hst.2.2.1 rfl hap2,by omega,hmu2.1,hmu2.2⟩,by simp only;omega,?_⟩
      ·have hb:=hbB_30
       first | (rw [← hst.2.2.2];exact hb) | exact hb
      refine Le.al ?_;simp only [List.forall_mem_cons];exact ⟨rfl,rfl,rfl,rfl,cnt (by omega),by simp⟩
     ·
      exact absurd hst.1 (by have hgo:=hc28;simpa using hgo)
  ·
   refine WP.exit ?_;refine hK4 _ (wr (ug th27 hob ?_));refine u_step0 (g_sta rfl rfl th27 rfl hzb (by first | (simp;done) | (simp [D.leaves,D.width,valCells];done) | decide) fun o32 hb32 hk32=>?_);have hob_32:=(hk32 _ (by omega)).trans hob;refine ua (u_nil (WP.ret ?_));refine retC_ok (resis_agg rfl th27 rfl hb32 rfl rfl rfl) rfl ?_ ?_ (by omega) (fun t ht=>(hk32 t (by omega)).trans ((hfr t (by omega))))
   ·have hie:i=l.length:=by have hgo:=hc8;simp at hgo;omega
    have hu:appP l (.mk kd it tx xs ns)=(u,0):=by rw [← hap2,List.drop_of_length_le (by omega)];rfl
    rw [refD,if_pos (by rw [hu]),hu];exact (encV_eq _).symm
   ·have hie:i=l.length:=by have hgo:=hc8;simp at hgo;omega
    have hu:appP l (.mk kd it tx xs ns)=(u,0):=by rw [← hap2,List.drop_of_length_le (by omega)];rfl
    rw [hu];rfl
 ·
  exact ⟨by omega,by omega,hb2_3,hb3,(fun t ht=>(hk3 t (by omega)).trans ((hk2 t (by omega)))),rfl,by simpa using hsz,hmy,h7⟩
 ·
  refine Le.al ?_;simp only [List.forall_mem_cons];exact ⟨rfl,rfl,rfl,rfl,rfl,by simp⟩
noncomputable def appA (v:Val) (l:List Dlt):Val:=if applyE v l=0 then (appP l v).1 else zeroV
noncomputable def refA (v:Val) (l:List Dlt):Val:=if (appP l v).2=0 then (appP l v).1 else zeroV
theorem s29w (v:Val) (l:List Dlt) (hok:∀ d∈l,okD d) (hsz:szV v≤274877906944) (hds:∀ d∈l,dS d≤8589934592):PSpec Tryz.prog 29 [.d (encV v),.d (.sl 8 (l.map encD))] (.tup ([encV (appA v l),.int .i64 (applyE v l)].map .d)):=by
 refine (s29 v l hok hsz hds).leT ?_;simp only [D.les,D.le_refl,and_true,applyD,appA];split
 ·exact D.le_refl _
 ·exact zAgg_le
theorem s33w (v:Val) (l:List Dlt) (hall:∀ d∈l,mayD d=true) (hlen:l.length≤64) (hmy:mayV v=true) (h7:v.kind=7) (hsz:szV v≤274877906944) (hds:∀ d∈l,dS d≤8589934592):PSpec Tryz.prog 33 [.d (encV v),.d (.sl 8 (l.map encD))] (.tup ([encV (refA v l),.bool (decide ((appP l v).2=0))].map .d)):=by
 refine (s33 v l hall hlen hmy h7 hsz hds).leT ?_;simp only [D.les,D.le_refl,and_true,refD,refA];split
 ·exact D.le_refl _
 ·exact zAgg_le
theorem app_40:∀ (l:List Dlt) (v:Val),(∀ d∈l,mayD d=true)→mayV v=true→v.kind=7→(appP l v).2=0∨(appP l v).2=40
 | [],v,_,_,_=>.inl rfl
 | d :: l,v,hl,hv,h7=>by
  have hd:=hl d (by simp);rw [appP];by_cases he:doE v d=0
  ·rw [if_pos he];have h:=do_may hv h7 hd he;exact app_40 l _ (fun x hx=>hl x (by simp [hx])) h.1 h.2
  ·rw [if_neg he];right;by_cases h1:d.kind=1
   ·have hs:=do_set hv h7 hd h1;cases hy:(setR v d.path d.value).2 with
    | true=>exact absurd (hs.1 hy).1 he
    | false=>exact hs.2 hy
   ·by_cases h2:d.kind=2
    ·exact absurd (do_drop hv h7 hd h2).1 he
    ·exact absurd (do_cutR hv h7 hd h1 h2).2.2.1 he
theorem app_a {v:Val} {l:List Dlt} (h:¬ checkD l=0):applyE v l=checkD l∧(appA v l).kind=0:=by
 have e:applyE v l=checkD l:=if_pos h;refine ⟨e,?_⟩;rw [appA,e,if_neg h];rfl
theorem app_b {v:Val} {l:List Dlt} (h:checkD l=0) (h2:v.kind≠7∨mayV v=false):applyE v l=20∧(appA v l).kind=0:=by
 have e:applyE v l=20:=by rw [applyE,if_neg (by simpa using h)];exact if_pos h2
 refine ⟨e,?_⟩;rw [appA,e,if_neg (by decide)];rfl
theorem app_c {v:Val} {l:List Dlt} (h:checkD l=0) (h2:¬ (v.kind≠7∨mayV v=false)):applyE v l=(appP l v).2:=by
 rw [applyE,if_neg (by simpa using h)];exact if_neg h2
theorem app_d {v:Val} {l:List Dlt} (h:checkD l=0) (h2:¬ (v.kind≠7∨mayV v=false)) (h3:¬ (appP l v).2=0):applyE v l=40∧(appA v l).kind=0:=by
 have e:=app_c h h2;have hv:mayV v=true:=by cases hm:mayV v with | true=>rfl | false=>exact absurd (.inr hm) h2
 have h7:v.kind=7:=Classical.not_not.1 fun e=>h2 (.inl e);have h4:(appP l v).2=40:=(app_40 l v (fun d hd=>checkD_all h d hd) hv h7).resolve_left h3;refine ⟨e.trans h4,?_⟩;rw [appA,e,if_neg h3];rfl
theorem app_e {v:Val} {l:List Dlt} (h:checkD l=0) (h2:¬ (v.kind≠7∨mayV v=false)) (h3:(appP l v).2=0):applyE v l=0∧appA v l=refA v l:=by
 have e:=app_c h h2;refine ⟨e.trans h3,?_⟩;rw [appA,refA,e]
theorem fn32:FnOk Tryz.prog 32 10 [2] (bodyOf Tryz.f32):=⟨Tryz.f32,Tryz.func32,by kernel_rfl,by decide,by kernel_rfl,by kernel_rfl⟩
theorem s32 (v:Val):PSpec Tryz.prog 32 [.d (encV v)] (.d (.bool (decide (v.kind=7) && mayV v))):=by
 obtain ⟨kd,it,tx,xs,ns⟩:=v;refine PSpec.of fn32 (by simp) fun o nk=>?_;refine wr ?_;refine u_step (g_box rfl fun o2 hb2 hk2=>?_);refine ua (u_nil (wr (uf th27 th3 hb2 ?_)));refine ul th3 hb2 ?_;refine ub (um ?_);apply gT
 ·rfl
 ·intro hg;exact pg th27 hb2
 apply gT
 ·rfl
 ·intro hg;try simp only [hg,ct,Bt]
  refine o_pcall (s80 (.mk kd it tx xs ns)) rfl ⟨rfl,rfl,rfl⟩
 refine uA ?_;refine ua ?_;refine u_nil ?_;refine WP.ret ?_;refine ret_ok rfl ?_ (by omega) (fun t ht=>(hk2 t (by omega)));refine congrArg D.bool ?_;by_cases h1:kd=7 <;> simp [h1,Val.kind]
theorem fn6:FnOk Tryz.prog 6 78 [4] (bodyOf Tryz.f6):=⟨Tryz.f6,Tryz.func6,by kernel_rfl,by decide,by kernel_rfl,by kernel_rfl⟩
theorem s6 (v:Val) (l:List Dlt) (hok:∀ d∈l,okD d) (hszd:∀ d∈l,szV d.value≤1099511627776) (hsz:szV v≤274877906944) (hds:∀ d∈l,dS d≤8589934592):PSpec Tryz.prog 6 [.d (encV v),.d (.sl 8 (l.map encD))] (.d (.bool true)):=by
 obtain ⟨w,hw⟩:∃ w,w=appA v l:=⟨_,rfl⟩;have h29:=s29w v l hok hsz hds;rw [← hw] at h29;obtain ⟨f,hf⟩:∃ f,f=refA v l:=⟨_,rfl⟩;have h33:=fun h1 h2 h3 h4=>s33w v l h1 h2 h3 h4 hsz hds;rw [← hf] at h33;obtain ⟨kd,it,tx,xs,ns⟩:=v;obtain ⟨kw,iw,tw,xw,nw⟩:=w;obtain ⟨kf,jf,tf,xf,nf⟩:=f;refine PSpec.of fn6 (by simp) fun o nk=>?_;refine wr ?_;refine u_step (g_box rfl fun o2 hb2 hk2=>?_);refine ua (u_nil (WP.seq fun K3 hK3=>?_));refine wr (um ?_);refine u_step (o_pcall (s25 l hszd) rfl ?_);refine um ?_;apply gF
 ·rfl
 ·intro hg;exact pg th27 hb2
 apply gF
 ·rfl
 ·intro hg;try simp only [hg,ct,Bt]
  have hg2:=hg;try simp only [Q0,Q1,Q2,Q3,Q4,Q5,Q6,Q9,Qa,Qb,Qc,Qd] at hg2
  refine o_pcall (s26 (.mk kd it tx xs ns) (by omega)) rfl ⟨rfl,rfl,rfl⟩
 refine uO ?_;refine u_nil ?_;refine wc (fun hc5=>?_) (fun hc5=>?_) <;> try simp only [Q0,Q1,Q2,Q3,Q4,Q5,Q6,Q7,Q8,ge_iff_le,gt_iff_lt] at hc5
 ·
  refine wr ?_;refine u_step (o_pcall (s27) rfl ?_);refine ua (u_nil (WP.ret ?_));refine ret_ok rfl ?_ (by omega) (fun t ht=>(hk2 t (by omega)));rfl
 ·
  refine WP.skip (hK3 _ (wr (ug th27 hb2 ?_)));refine u_step (o_pcall (s28 (.mk kd it tx xs ns) (by omega)) rfl ?_);refine u_step (g_alloc th27 rfl fun o8 hb8 hk8=>?_);have hb2_8:=(hk8 _ (by omega)).trans hb2;refine u_step0 (g_sta rfl rfl th27 rfl hb8 (by first | (simp;done) | (simp [D.leaves,D.width,valCells];done) | decide) fun o9 hb9 hk9=>?_);have hb2_9:=(hk9 _ (by omega)).trans hb2_8;refine u_nil (wr (ug th27 hb9 ?_));refine um ?_;refine u_step (o_pcall (h29) rfl ?_);refine u_step (o_moveV (v:=.tup _) rfl ?_);refine ue (ue ?_);refine u_step (g_alloc th27 rfl fun o11 hb11 hk11=>?_);have hb2_11:=(hk11 _ (by omega)).trans hb2_9;have hb9_11:=(hk11 _ (by omega)).trans hb9;refine u_step0 (g_sta rfl rfl th27 rfl hb11 (by first | (simp;done) | (simp [D.leaves,D.width,valCells];done) | decide) fun o12 hb12 hk12=>?_);have hb2_12:=(hk12 _ (by omega)).trans hb2_11;have hb9_12:=(hk12 _ (by omega)).trans hb9_11;refine ua (u_nil (WP.seq fun K13 hK13=>?_));refine wr ?_;refine u_step (o_pcall (s27) rfl ?_);refine uN (um ?_);apply gF
  ·rfl
  ·intro hg;exact pg th27 hb9_12
  apply gF
  ·rfl
  ·intro hg;exact pg th27 hb2_12
  apply gF
  ·rfl
  ·intro hg;try simp only [hg,ct,Bt]
   refine o_pcall (s30 (.mk kd it tx xs ns) (.mk kd it tx xs ns)) rfl ⟨rfl,rfl,rfl⟩
  apply gF
  ·rfl
  ·intro hg;try simp only [hg,ct,Bt]
   exact pN
  refine uO ?_;refine u_nil ?_;refine wc (fun hc15=>?_) (fun hc15=>?_) <;> try simp only [Q0,Q1,Q2,Q3,Q4,Q5,Q6,Q7,Q8,ge_iff_le,gt_iff_lt] at hc15
  ·
   simp [sameV] at hc15
  ·
   refine WP.skip ?_;refine hK13 _ ?_;refine WP.seq fun K16 hK16=>?_;refine wr ?_;refine um ?_;refine u_step (o_pcall (s31 l (fun _=>hok)) rfl ?_);refine ua ?_;refine u_nil ?_;refine wr ?_;refine um ?_;refine ub ?_;refine u_nil ?_;refine wc (fun hc19=>?_) (fun hc19=>?_) <;> try simp only [Q0,Q1,Q2,Q3,Q4,Q5,Q6,Q7,Q8,ge_iff_le,gt_iff_lt] at hc19
   ·
    have hz:¬ checkD l=0:=by have hgo:=hc19;simpa using hgo
    have hq:=app_a (v:=(.mk kd it tx xs ns)) hz;rw [← hw] at hq;refine wr (uf th27 th3 hb12 ?_);refine ul th3 hb12 ?_;refine ub (um ?_);apply gT
    ·rfl
    ·intro hg;exact pm
    apply gT
    ·rfl
    ·intro hg;exact pm
    apply gT
    ·rfl
    ·intro hg;try simp only [hg,ct,Bt]
     exact pb
    refine uA (ua (u_nil (WP.ret ?_)));refine ret_ok rfl ?_ (by omega) (fun t ht=>(hk12 t (by omega)).trans ((hk11 t (by omega)).trans ((hk9 t (by omega)).trans ((hk8 t (by omega)).trans ((hk2 t (by omega)))))));refine congrArg D.bool ?_;have hq1:=hq.1;have hq2:=hq.2
    try simp only [Val.kind] at hq2
    rw [hq1,hq2];simp [sameV]
   ·
    have hz:checkD l=0:=by have hgo:=hc19;simpa using hgo
    refine WP.skip ?_;refine hK16 _ ?_;refine WP.seq fun K21 hK21=>?_;refine wr ?_;refine ug th27 hb2_12 ?_;refine u_step (o_pcall (s32 (.mk kd it tx xs ns)) rfl ?_);refine uN ?_;refine u_nil ?_;refine wc (fun hc23=>?_) (fun hc23=>?_) <;> try simp only [Q0,Q1,Q2,Q3,Q4,Q5,Q6,Q7,Q8,ge_iff_le,gt_iff_lt] at hc23
    ·
     have hA:kd≠7∨mayV (.mk kd it tx xs ns)=false:=by have hgo:=hc23;simp only [Val.kind] at hgo;by_cases h1:kd=7 <;> simp_all
     have hq:=app_b (v:=(.mk kd it tx xs ns)) hz hA;rw [← hw] at hq;refine wr (uf th27 th3 hb12 ?_);refine ul th3 hb12 ?_;refine ub (um ?_);apply gT
     ·rfl
     ·intro hg;exact pm
     apply gT
     ·rfl
     ·intro hg;try simp only [hg,ct,Bt]
      exact pb
     refine uA (ua (u_nil (WP.ret ?_)));refine ret_ok rfl ?_ (by omega) (fun t ht=>(hk12 t (by omega)).trans ((hk11 t (by omega)).trans ((hk9 t (by omega)).trans ((hk8 t (by omega)).trans ((hk2 t (by omega)))))));refine congrArg D.bool ?_;have hq1:=hq.1;have hq2:=hq.2
     try simp only [Val.kind] at hq2
     rw [hq1,hq2];simp [sameV]
    ·
     have hA:¬ (kd≠7∨mayV (.mk kd it tx xs ns)=false):=by have hgo:=hc23;simp only [Val.kind] at hgo;by_cases h1:kd=7 <;> simp_all
     have hmv:mayV (.mk kd it tx xs ns)=true:=by cases hm:mayV (.mk kd it tx xs ns) with | true=>rfl | false=>exact absurd (.inr hm) hA
     have hk7:kd=7:=Classical.not_not.1 fun e=>hA (.inl e);refine WP.skip ?_;refine hK21 _ ?_;refine wr ?_;refine ug th27 hb2_12 ?_;refine um ?_;refine u_step (o_pcall (h33 (fun d hd=>checkD_all hz d hd) (checkD_len hz) hmv hk7) rfl ?_);refine u_step (o_moveV (v:=.tup _) rfl ?_);refine ue ?_;refine ue ?_;refine u_step (g_alloc th27 rfl fun o26 hb26 hk26=>?_);have hb2_26:=(hk26 _ (by omega)).trans hb2_12;have hb9_26:=(hk26 _ (by omega)).trans hb9_12;have hb12_26:=(hk26 _ (by omega)).trans hb12;refine u_step0 (g_sta rfl rfl th27 rfl hb26 (by first | (simp;done) | (simp [D.leaves,D.width,valCells];done) | decide) fun o27 hb27 hk27=>?_);have hb2_27:=(hk27 _ (by omega)).trans hb2_26;have hb9_27:=(hk27 _ (by omega)).trans hb9_26;have hb12_27:=(hk27 _ (by omega)).trans hb12_26;refine ua ?_;refine u_nil ?_;refine WP.seq fun K28 hK28=>?_;refine wr ?_;refine um ?_;refine uN ?_;refine u_nil ?_;refine wc (fun hc30=>?_) (fun hc30=>?_) <;> try simp only [Q0,Q1,Q2,Q3,Q4,Q5,Q6,Q7,Q8,ge_iff_le,gt_iff_lt] at hc30
     ·
      have h3:¬ (appP l (.mk kd it tx xs ns)).2=0:=by have hgo:=hc30;simpa using hgo
      have hq:=app_d (v:=(.mk kd it tx xs ns)) hz hA h3;rw [← hw] at hq;refine wr (uf th27 th3 hb12_27 ?_);refine ul th3 hb12_27 ?_;refine ub (um ?_);apply gT
      ·rfl
      ·intro hg;exact pm
      apply gT
      ·rfl
      ·intro hg;try simp only [hg,ct,Bt]
       exact pb
      refine uA (ua (u_nil (WP.ret ?_)));refine ret_ok rfl ?_ (by omega) (fun t ht=>(hk27 t (by omega)).trans ((hk26 t (by omega)).trans ((hk12 t (by omega)).trans ((hk11 t (by omega)).trans ((hk9 t (by omega)).trans ((hk8 t (by omega)).trans ((hk2 t (by omega)))))))));refine congrArg D.bool ?_;have hq1:=hq.1;have hq2:=hq.2
      try simp only [Val.kind] at hq2
      rw [hq1,hq2];simp [sameV]
     ·
      have h3:(appP l (.mk kd it tx xs ns)).2=0:=by have hgo:=hc30;simpa using hgo
      have hq:=app_e (v:=(.mk kd it tx xs ns)) hz hA h3;rw [← hw,← hf] at hq;refine WP.skip (hK28 _ (wr (um (ub (um ?_)))));apply gT
      ·rfl
      ·intro hg;exact pg th27 hb12_27
      apply gT
      ·rfl
      ·intro hg;exact pg th27 hb27
      apply gT
      ·rfl
      ·intro hg;try simp only [hg,ct,Bt]
       refine o_pcall (s30 (.mk kw iw tw xw nw) (.mk kf jf tf xf nf)) rfl ⟨rfl,rfl,rfl⟩
      refine uA (ua (u_nil (WP.ret ?_)));refine ret_ok rfl ?_ (by omega) (fun t ht=>(hk27 t (by omega)).trans ((hk26 t (by omega)).trans ((hk12 t (by omega)).trans ((hk11 t (by omega)).trans ((hk9 t (by omega)).trans ((hk8 t (by omega)).trans ((hk2 t (by omega)))))))));refine congrArg D.bool ?_;have hq1:=hq.1;have hq2:=hq.2
      try simp only [Val.kind] at hq2
      rw [hq1,hq2];simp [sameV]
theorem s6c (v:Val) (l:List Dlt) (hok:∀ d∈l,okD d) (hszd:∀ d∈l,szV d.value≤1099511627776) (hsz:szV v≤274877906944) (hds:∀ d∈l,dS d≤8589934592):PSpec Tryz.prog 6 [.d (.agg (valCells v)),.d (.sl 8 (l.map encD))] (.d (.bool true)):=by
 have h:=s6 v l hok hszd hsz hds;rw [encV_eq v] at h;exact h
end Go.Proofs.YtpkcbdhjnnnkbaaGreat.Abs

namespace Go.Proofs.YtpkcbdhjnnnkbaaGreat.lawDeltaApplies
open Go Abs
open Go.ChangeShapes Go.WideShapes Go.ChangeAt Go.RowKit
theorem own:ownKnob Tryz.prog.godebug=none:=by kernel_rfl
theorem laid:laidOutB Tryz.prog=true:=by kernel_rfl
theorem contract (H:Type) (enc:TypeId×Value→H) (W:World) (base:Nat) (args:Array Value) (ds gs:List (DataW H)) (before:List MemPlace)
    (hval:∀ (j:Nat) t v,Tryz.f6.params[j]?=some t→args[j]?=some v→Value.okWide Tryz.prog W .any base t v)
    (hW:DataW.Whole enc Tryz.prog Tryz.f6.params.toList Rows.deltaAppliesSpec.vars false W args.toList ds gs before) (hk:Rows.uptoSmall H (ds++gs)=true) :
    Calls Tryz.prog 6 args W fun e W'=>∃ v,e=.returned v∧Rows.deltaAppliesSpec.post enc Tryz.prog Tryz.f6 false true false false W args v W':=by
  have hW':=hW;obtain ⟨p,q,hA0,hV,rfl,hfz,hnd⟩:=hW;have hA:DataW.TrodAll enc Tryz.prog W 0 (fun _=>true) true Tryz.f6.params.toList args.toList ds p:=hA0;rw [Tryz.params6] at hA hval;obtain ⟨v0,vs0,d0,ds0,p0,q0,hargs,rfl,rfl,h0,r0⟩:=trodAll_cons hA;obtain ⟨v1,vs1,d1,ds1,p1,q1,rfl,rfl,rfl,h1,r1⟩:=trodAll_cons r0;obtain ⟨rfl,rfl,rfl⟩:=trodAll_nil r1;obtain rfl:args=#[v0,v1]:=by cases args;simp_all
  obtain ⟨rfl,rfl⟩:=trodVars_none hV;clear hA0;simp only [List.append_nil] at hW' hk;have hb:Rows.uptoBulkAll [d0,d1]≤1048576:=of_decide_eq_true hk;simp only [Rows.uptoBulkAll] at hb;obtain ⟨n0,t0⟩:=h0;obtain ⟨v,c0,a0⟩:=open_val _ _ _ t0;have x0:=rdv_struct (hval 0 27 v0 rfl rfl) (tabOk _ _ th27) rfl c0 (show D.agg (valCells v)=.agg (D.cl (.agg (valCells v))) from rfl) rfl;obtain ⟨n1,t1⟩:=h1;obtain ⟨l,c1,a1⟩:=open_dlts t1;have x1:=rdv_one (hval 1 28 v1 rfl rfl) (tabOk _ _ th28) rfl c1;have hda:=dlts_all (d:=d1) a1;have hok:∀ x∈l,okD x:=fun x hx=>⟨hda.2 x hx,by have:=szDs_mem hx;omega⟩;have hszd:∀ x∈l,szV x.value≤1099511627776:=fun x hx=>by have:=szDs_mem hx;omega
  have hszv:szV v≤274877906944:=by have h:szV v≤Rows.uptoBulk d0:=a0.2;omega
  have hds:∀ x∈l,dS x≤8589934592:=fun x hx=>by have:=szDs_mem hx;have:=szN_len x.path;unfold dS;omega
  refine (calls_of_spec (vs:=[v0,v1]) (ds:=[.agg (valCells v),.sl 8 (l.map encD)]) Tryz.func6 (by kernel_rfl) (by kernel_rfl) (s6c v l hok hszd hszv hds) ⟨rfl,fun i x v hx hv=>?_⟩).mono fun e W' ⟨he,hg⟩=>?_
  · match i,hx,hv with
    | 0,hx,hv=>simp at hx hv;subst hx;subst hv;exact x0
    | 1,hx,hv=>simp at hx hv;subst hx;subst hv;exact x1
    | i+2,hx,hv=>simp at hx
  subst he;exact ⟨_,rfl,post_of_below (pa:=p0++(p1++[])) (pv:=[]) hW' (fun _ _ _=>trodAll_cons_mk (shut_bool Tryz.underlying4 _) trodAll_mk0) (fun sp hs=>trodAll_stays laid hg (by kernel_rfl) hA (fun x hx=>hs x (by simpa using hx)) (fun x hx=>hW'.lt x (by simpa using hx))) (fun _ _=>rfl) (by simp) hg (ok_one (by kernel_rfl) rfl (okWide_bool_mk Tryz.underlying4 _))⟩
set_option maxRecDepth 100000 in
theorem lifted (os:Os) (started:os.Started) (H:Type) (enc:TypeId×Value→H) (F:Stop.Interp) :
    ReturnsInHanded {} Tryz.checked os 6 .any ((Rows.OpenSpec.upto Rows.deltaAppliesSpec).pre6 enc Tryz.prog Tryz.f6 Rows.deltaAppliesUptoRow.domain false) (((Rows.OpenSpec.upto Rows.deltaAppliesSpec).at F).post enc Tryz.prog Tryz.f6 false true false false):=by
  refine returnsInHanded_of_cond (C:=Tryz.checked) (s:=Rows.OpenSpec.upto Rows.deltaAppliesSpec) (k:=Rows.uptoSmall) rfl own started (by kernel_rfl) Tryz.func6
    (OpenSpec.witness (enc:=enc) (C:=Tryz.checked) (s:=Rows.OpenSpec.upto Rows.deltaAppliesSpec) (k:=Rows.uptoSmall) rfl false ⟨#[],#[.agg #[.int .i64 0,.int .i64 0,.string ⟨#[]⟩,.slice none 0 0,.slice none 0 0],.slice none 0 0],[]⟩ 8 (by kernel_rfl) (by kernel_rfl) (by kernel_rfl)
      (x:=([.agg [.lit (.int .i64 0),.lit (.int .i64 0),.lit (.string []),.nil,.nil],.nil],[],[])) (by kernel_rfl) rfl (by kernel_rfl)) ?_
  intro W base args ds gs before hval hW _ hk _;exact contract H enc W base args ds gs before hval hW hk
theorem j0:(fun (P:Program) (f:FuncId) (fn:Func) (s:ChangeSpec) (c:OpenClaim)=>(c.wf (OpenSpec.ofChange s):Bool)) Tryz.checked.prog 6 Tryz.f6 (Rows.OpenSpec.upto Rows.deltaAppliesSpec).bare Rows.deltaAppliesUptoRow=true:=by kernel_rfl
theorem j1:(fun (P:Program) (f:FuncId) (fn:Func) (s:ChangeSpec) (c:OpenClaim)=>(laidOutB P:Bool)) Tryz.checked.prog 6 Tryz.f6 (Rows.OpenSpec.upto Rows.deltaAppliesSpec).bare Rows.deltaAppliesUptoRow=true:=by kernel_rfl
theorem j2:(fun (P:Program) (f:FuncId) (fn:Func) (s:ChangeSpec) (c:OpenClaim)=>(mapsRowed P:Bool)) Tryz.checked.prog 6 Tryz.f6 (Rows.OpenSpec.upto Rows.deltaAppliesSpec).bare Rows.deltaAppliesUptoRow=true:=by kernel_rfl
theorem j3:(fun (P:Program) (f:FuncId) (fn:Func) (s:ChangeSpec) (c:OpenClaim)=>(fn.params.all (P.readableRec ·):Bool)) Tryz.checked.prog 6 Tryz.f6 (Rows.OpenSpec.upto Rows.deltaAppliesSpec).bare Rows.deltaAppliesUptoRow=true:=by kernel_rfl
theorem j4:(fun (P:Program) (f:FuncId) (fn:Func) (s:ChangeSpec) (c:OpenClaim)=>(namedTie P c.named s.vars:Bool)) Tryz.checked.prog 6 Tryz.f6 (Rows.OpenSpec.upto Rows.deltaAppliesSpec).bare Rows.deltaAppliesUptoRow=true:=by kernel_rfl
theorem j5:(fun (P:Program) (f:FuncId) (fn:Func) (s:ChangeSpec) (c:OpenClaim)=>((c.stops == []):Bool)) Tryz.checked.prog 6 Tryz.f6 (Rows.OpenSpec.upto Rows.deltaAppliesSpec).bare Rows.deltaAppliesUptoRow=true:=by kernel_rfl
theorem j6:(fun (P:Program) (f:FuncId) (fn:Func) (s:ChangeSpec) (c:OpenClaim)=>((P.stops == []):Bool)) Tryz.checked.prog 6 Tryz.f6 (Rows.OpenSpec.upto Rows.deltaAppliesSpec).bare Rows.deltaAppliesUptoRow=true:=by kernel_rfl
theorem j7:(fun (P:Program) (f:FuncId) (fn:Func) (s:ChangeSpec) (c:OpenClaim)=>((c.knobs == []):Bool)) Tryz.checked.prog 6 Tryz.f6 (Rows.OpenSpec.upto Rows.deltaAppliesSpec).bare Rows.deltaAppliesUptoRow=true:=by kernel_rfl
theorem j8:(fun (P:Program) (f:FuncId) (fn:Func) (s:ChangeSpec) (c:OpenClaim)=>((P.stopKnobs == []):Bool)) Tryz.checked.prog 6 Tryz.f6 (Rows.OpenSpec.upto Rows.deltaAppliesSpec).bare Rows.deltaAppliesUptoRow=true:=by kernel_rfl
theorem j9:(fun (P:Program) (f:FuncId) (fn:Func) (s:ChangeSpec) (c:OpenClaim)=>((c.inPlace == P.inPlace f):Bool)) Tryz.checked.prog 6 Tryz.f6 (Rows.OpenSpec.upto Rows.deltaAppliesSpec).bare Rows.deltaAppliesUptoRow=true:=by kernel_rfl
theorem j10:(fun (P:Program) (f:FuncId) (fn:Func) (s:ChangeSpec) (c:OpenClaim)=>((c.unfollowed == P.unfollowed f):Bool)) Tryz.checked.prog 6 Tryz.f6 (Rows.OpenSpec.upto Rows.deltaAppliesSpec).bare Rows.deltaAppliesUptoRow=true:=by kernel_rfl
theorem j11:(fun (P:Program) (f:FuncId) (fn:Func) (s:ChangeSpec) (c:OpenClaim)=>((c.recurses == P.recurses f):Bool)) Tryz.checked.prog 6 Tryz.f6 (Rows.OpenSpec.upto Rows.deltaAppliesSpec).bare Rows.deltaAppliesUptoRow=true:=by kernel_rfl
theorem j12:(fun (P:Program) (f:FuncId) (fn:Func) (s:ChangeSpec) (c:OpenClaim)=>((c.named == P.varsNamed f):Bool)) Tryz.checked.prog 6 Tryz.f6 (Rows.OpenSpec.upto Rows.deltaAppliesSpec).bare Rows.deltaAppliesUptoRow=true:=by kernel_rfl
theorem j13:(fun (P:Program) (f:FuncId) (fn:Func) (s:ChangeSpec) (c:OpenClaim)=>((c.maps == (fn.params.toList++s.plain.varTypes P).any (P.mapsRec ·)):Bool)) Tryz.checked.prog 6 Tryz.f6 (Rows.OpenSpec.upto Rows.deltaAppliesSpec).bare Rows.deltaAppliesUptoRow=true:=by kernel_rfl
theorem j14:(fun (P:Program) (f:FuncId) (fn:Func) (s:ChangeSpec) (c:OpenClaim)=>((c.ifaces == (fn.params.toList++s.plain.varTypes P).any (P.ifacesRec ·)):Bool)) Tryz.checked.prog 6 Tryz.f6 (Rows.OpenSpec.upto Rows.deltaAppliesSpec).bare Rows.deltaAppliesUptoRow=true:=by kernel_rfl
theorem j15:(fun (P:Program) (f:FuncId) (fn:Func) (s:ChangeSpec) (c:OpenClaim)=>((c.mapsOut == P.mapsAmong fn.resultTypes.toList):Bool)) Tryz.checked.prog 6 Tryz.f6 (Rows.OpenSpec.upto Rows.deltaAppliesSpec).bare Rows.deltaAppliesUptoRow=true:=by kernel_rfl
theorem j16:(fun (P:Program) (f:FuncId) (fn:Func) (s:ChangeSpec) (c:OpenClaim)=>((c.loops == (fn.params.toList++s.plain.varTypes P).any (P.loopsFrom ·)):Bool)) Tryz.checked.prog 6 Tryz.f6 (Rows.OpenSpec.upto Rows.deltaAppliesSpec).bare Rows.deltaAppliesUptoRow=true:=by kernel_rfl
theorem j17:(fun (P:Program) (f:FuncId) (fn:Func) (s:ChangeSpec) (c:OpenClaim)=>((c.wideKeys == (fn.params.toList++s.plain.varTypes P++fn.resultTypes.toList).any (P.wideKeysFrom ·)):Bool)) Tryz.checked.prog 6 Tryz.f6 (Rows.OpenSpec.upto Rows.deltaAppliesSpec).bare Rows.deltaAppliesUptoRow=true:=by kernel_rfl
theorem j18:(fun (P:Program) (f:FuncId) (fn:Func) (s:ChangeSpec) (c:OpenClaim)=>(s.vars.all (P.varReadable ·):Bool)) Tryz.checked.prog 6 Tryz.f6 (Rows.OpenSpec.upto Rows.deltaAppliesSpec).bare Rows.deltaAppliesUptoRow=true:=by kernel_rfl
theorem j19:(fun (P:Program) (f:FuncId) (fn:Func) (s:ChangeSpec) (c:OpenClaim)=>(fn.resultTypes.all (fun t=>P.readableRec t && decide (t < P.types.size)):Bool)) Tryz.checked.prog 6 Tryz.f6 (Rows.OpenSpec.upto Rows.deltaAppliesSpec).bare Rows.deltaAppliesUptoRow=true:=by kernel_rfl
theorem j20:(fun (P:Program) (f:FuncId) (fn:Func) (s:ChangeSpec) (c:OpenClaim)=>((c.ifacesOut == fn.resultTypes.toList.any (P.ifacesRec ·)):Bool)) Tryz.checked.prog 6 Tryz.f6 (Rows.OpenSpec.upto Rows.deltaAppliesSpec).bare Rows.deltaAppliesUptoRow=true:=by kernel_rfl
theorem j21:(fun (P:Program) (f:FuncId) (fn:Func) (s:ChangeSpec) (c:OpenClaim)=>((c.loopsOut == fn.resultTypes.toList.any (P.loopsFrom ·)):Bool)) Tryz.checked.prog 6 Tryz.f6 (Rows.OpenSpec.upto Rows.deltaAppliesSpec).bare Rows.deltaAppliesUptoRow=true:=by kernel_rfl
theorem j22:(fun (P:Program) (f:FuncId) (fn:Func) (s:ChangeSpec) (c:OpenClaim)=>((c.plainKeys == P.plainKeys):Bool)) Tryz.checked.prog 6 Tryz.f6 (Rows.OpenSpec.upto Rows.deltaAppliesSpec).bare Rows.deltaAppliesUptoRow=true:=by kernel_rfl
theorem j23:(fun (P:Program) (f:FuncId) (fn:Func) (s:ChangeSpec) (c:OpenClaim)=>(c.shortTexts.isNone:Bool)) Tryz.checked.prog 6 Tryz.f6 (Rows.OpenSpec.upto Rows.deltaAppliesSpec).bare Rows.deltaAppliesUptoRow=true:=by kernel_rfl
theorem j24:(fun (P:Program) (f:FuncId) (fn:Func) (s:ChangeSpec) (c:OpenClaim)=>(P.stopsHeard:Bool)) Tryz.checked.prog 6 Tryz.f6 (Rows.OpenSpec.upto Rows.deltaAppliesSpec).bare Rows.deltaAppliesUptoRow=true:=by kernel_rfl
theorem j25:(fun (P:Program) (f:FuncId) (fn:Func) (s:ChangeSpec) (c:OpenClaim)=>(P.mayEnter:Bool)) Tryz.checked.prog 6 Tryz.f6 (Rows.OpenSpec.upto Rows.deltaAppliesSpec).bare Rows.deltaAppliesUptoRow=true:=by kernel_rfl
theorem j26:(fun (P:Program) (f:FuncId) (fn:Func) (s:ChangeSpec) (c:OpenClaim)=>((c.lifted == P.liftsFinal):Bool)) Tryz.checked.prog 6 Tryz.f6 (Rows.OpenSpec.upto Rows.deltaAppliesSpec).bare Rows.deltaAppliesUptoRow=true:=by kernel_rfl
theorem j27:(fun (P:Program) (f:FuncId) (fn:Func) (s:ChangeSpec) (c:OpenClaim)=>((P.make == some c.make):Bool)) Tryz.checked.prog 6 Tryz.f6 (Rows.OpenSpec.upto Rows.deltaAppliesSpec).bare Rows.deltaAppliesUptoRow=true:=by kernel_rfl
theorem j28:(fun (P:Program) (f:FuncId) (fn:Func) (s:ChangeSpec) (c:OpenClaim)=>((c.kinds == (if c.domain.isEmpty then [] else fn.params.toList.map fun t=>match P.underlying t with | some (.int k)=>some k | _=>none)):Bool)) Tryz.checked.prog 6 Tryz.f6 (Rows.OpenSpec.upto Rows.deltaAppliesSpec).bare Rows.deltaAppliesUptoRow=true:=by kernel_rfl
theorem j29:(fun (P:Program) (f:FuncId) (fn:Func) (s:ChangeSpec) (c:OpenClaim)=>((c.pinned == c.pinnedBy):Bool)) Tryz.checked.prog 6 Tryz.f6 (Rows.OpenSpec.upto Rows.deltaAppliesSpec).bare Rows.deltaAppliesUptoRow=true:=by kernel_rfl
theorem j30:(fun (P:Program) (f:FuncId) (fn:Func) (s:ChangeSpec) (c:OpenClaim)=>((c.veiled == (fn.params.toList++s.plain.varTypes P++fn.resultTypes.toList).any (P.veiledRec ·)):Bool)) Tryz.checked.prog 6 Tryz.f6 (Rows.OpenSpec.upto Rows.deltaAppliesSpec).bare Rows.deltaAppliesUptoRow=true:=by kernel_rfl
theorem j31:(fun (P:Program) (f:FuncId) (fn:Func) (s:ChangeSpec) (c:OpenClaim)=>(c.veiledFits P fn.params.toList (fn.params.toList++s.plain.varTypes P++fn.resultTypes.toList):Bool)) Tryz.checked.prog 6 Tryz.f6 (Rows.OpenSpec.upto Rows.deltaAppliesSpec).bare Rows.deltaAppliesUptoRow=true:=by kernel_rfl
theorem jand (a b:Bool) (h1:a=true) (h2:b=true):(a && b)=true:=by rw [h1,h2];rfl
theorem closed:joinedFacts Tryz.checked.prog 6 Tryz.f6 (Rows.OpenSpec.upto Rows.deltaAppliesSpec).bare Rows.deltaAppliesUptoRow=true:=jand _ _ (jand _ _ (jand _ _ (jand _ _ (jand _ _ (jand _ _ (jand _ _ (jand _ _ (jand _ _ (jand _ _ (jand _ _ (jand _ _ (jand _ _ (jand _ _ (jand _ _ (jand _ _ (jand _ _ (jand _ _ (jand _ _ (jand _ _ (jand _ _ (jand _ _ (jand _ _ (jand _ _ (jand _ _ (jand _ _ (jand _ _ (jand _ _ (jand _ _ (jand _ _ (jand _ _ j0 j1) j2) j3) j4) j5) j6) j7) j8) j9) j10) j11) j12) j13) j14) j15) j16) j17) j18) j19) j20) j21) j22) j23) j24) j25) j26) j27) j28) j29) j30) j31
theorem over:Rows.deltaAppliesUptoRow.holds Tryz.pinned (Rows.OpenSpec.upto Rows.deltaAppliesSpec):=
 OpenClaim.holds_of_cond 6 Tryz.f6 rfl rfl rfl rfl rfl rfl rfl ⟨rfl,rfl,rfl,rfl,rfl⟩ rfl rfl rfl rfl rfl (by kernel_rfl) Tryz.func6 closed
  (of_decide_eq_true (by kernel_rfl)) (by unfold Func.isWrapper;first | (rw [if_pos (by decide +kernel)];kernel_rfl) | (rw [if_neg (by decide +kernel)];exact ⟨rfl,rfl⟩))
  (fun os started H enc _ F=>lifted os started H enc F)
end Go.Proofs.YtpkcbdhjnnnkbaaGreat.lawDeltaApplies
namespace Go.Proofs.YtpkcbdhjnnnkbaaGreat
theorem deltaApplies_upto_holds:Rows.DeltaAppliesUptoSaid:=lawDeltaApplies.over
end Go.Proofs.YtpkcbdhjnnnkbaaGreat
