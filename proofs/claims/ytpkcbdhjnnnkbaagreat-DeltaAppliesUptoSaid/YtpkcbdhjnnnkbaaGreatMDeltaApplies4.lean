/- Part 4 of the proof that DeltaApplies: called with any value and any changes that hold together at most 1048576 values and letters, the law answers true, and both read afterwards as they read before. -/
import Derived.Test.YtpkcbdhjnnnkbaaGreatMDeltaApplies2
import Derived.Test.YtpkcbdhjnnnkbaaGreatMDeltaApplies3
import Derived.Test.YtpkcbdhjnnnkbaaGreatRows
import Derived.WalkKit
import Derived.ProofKit
import Derived.OpenShut
import Derived.JoinedCond
import Derived.ChangeArms
import Derived.Carry
set_option linter.unusedSimpArgs false
set_option linter.unusedVariables false
set_option maxHeartbeats 1000000
set_option maxRecDepth 100000
namespace Go.Proofs.YtpkcbdhjnnnkbaaGreat.Abs
open Go
structure Pend (w0:World) (w:World) (S:Nat→Prop) (γ:Nat→Value) (o:Nat→Option AO) (g:Nat) (l:List D):Prop where
 mk ::
 cells:∃ arr ty,w.heap[g]?=some (.cells arr ty (0,0))∧arr.size=l.length∧∀ (i:Nat) (c:D) (u:Value),l[i]?=some c→arr[i]?=some u→Rd w S c u
 new:w0.heap.size≤g
 lt:g < w.heap.size
 ns:¬ S g
 nl:¬ Live γ o g
theorem Sto.adopt {w:World} {S:Nat→Prop} {γ:Nat→Value} {o:Nat→Option AO} {nk:Nat} (h:Sto w S γ o nk) {w0:World} {g:Nat} {l:List D} (hp:Pend w0 w S γ o g l) :
    Sto w S (upd γ nk (.pointer (some ⟨g,0,none⟩))) (upd o nk (some (.box (l.map .d)))) (nk+1):=by
  obtain ⟨⟨arr,ty,hg0,hsz,hr⟩,hw0,hlt,hns,hnl⟩:=hp;have hne:∀ t x,o t=some x→t≠nk:=fun t x hx e=>by have:=h.o_lt t x hx;omega
  have hkeys:∀ t x,t < nk→upd o nk (some (.box (l.map .d))) t=some x→∃ y,o t=some y∧AO.kin y x∧upd γ nk (.pointer (some ⟨g,0,none⟩)) t=γ t:=by
    intro t x ht hx;rw [upd_ne _ _ (by omega)] at hx;exact ⟨x,hx,AO.kin_refl x,upd_ne _ _ (by omega)⟩
  have hlive:∀ t x g',upd o nk (some (.box (l.map .d))) t=some x→blk (upd γ nk (.pointer (some ⟨g,0,none⟩)) t)=some g'→(t=nk∧g'=g)∨(t≠nk∧o t=some x∧blk (γ t)=some g'):=by
    intro t x g' hx hg;by_cases ht:t=nk
    · subst ht;rw [upd_same] at hg;simp [blk] at hg;exact .inl ⟨rfl,hg.symm⟩
    · rw [upd_ne _ _ ht] at hx hg;exact .inr ⟨ht,hx,hg⟩
  refine ⟨h.s_lt,?_,?_,?_,?_,?_,?_⟩
  · intro t x hx;by_cases ht:t=nk
    · omega
    · rw [upd_ne _ _ ht] at hx;have:=h.o_lt t x hx;omega
  · intro t cs' hc;by_cases ht:t=nk
    · subst ht;rw [upd_same] at hc;simp at hc;subst hc;rw [upd_same];refine ⟨⟨g,arr,ty,rfl,hg0,by simp [hsz],fun i c u h1 h2=>?_⟩,lts_of fun i c hc=>?_⟩
      · rw [List.getElem?_map] at h1;obtain ⟨d,hd,rfl⟩:=Option.map_eq_some_iff.1 h1;exact .d _ _ (hr i d u hd h2)
      · rw [List.getElem?_map] at hc;obtain ⟨d,hd,rfl⟩:=Option.map_eq_some_iff.1 hc;trivial
    · rw [upd_ne _ _ ht] at hc;obtain ⟨⟨g',arr',ty',h4,h5,h6,h7⟩,hl'⟩:=h.box t cs' hc;rw [upd_ne _ _ ht];exact ⟨⟨g',arr',ty',h4,h5,h6,fun i c u h8 h9=>(h7 i c u h8 h9).move (fun _ h=>h) (fun _ _=>rfl) hkeys (lts_get hl' i c h8)⟩,SV.lts_mono (Nat.le_succ _) hl'⟩
  · intro t e z xs hx;by_cases ht:t=nk
    · subst ht;rw [upd_same] at hx;cases hx
    · rw [upd_ne _ _ ht] at hx;rw [upd_ne _ _ ht];exact h.row t e z xs hx
  · intro t ob hx;by_cases ht:t=nk
    · subst ht;rw [upd_same] at hx;cases hx
    · rw [upd_ne _ _ ht] at hx;rw [upd_ne _ _ ht];exact h.raw t ob hx
  · intro t x g' hx hg;rcases hlive t x g' hx hg with ⟨_,rfl⟩ | ⟨_,h1,h2⟩
    · exact ⟨hns,hlt⟩
    · exact h.away t x g' h1 h2
  · intro t t' x x' g' hne' hx hx' hg hg';rcases hlive t x g' hx hg with ⟨h1,h2⟩ | ⟨h1,h2,h3⟩ <;> rcases hlive t' x' g' hx' hg' with ⟨h1',h2'⟩ | ⟨h1',h2',h3'⟩
    · exact hne' (h1.trans h1'.symm)
    · subst h2;exact hnl ⟨t',x',h2',h3'⟩
    · subst h2';exact hnl ⟨t,x,h2,h3⟩
    · exact h.apart t t' x x' g' hne' h2 h2' h3 h3'
theorem Pend.tr {w0 w w':World} {S S':Nat→Prop} {γ γ':Nat→Value} {o o':Nat→Option AO} {nk nk' g:Nat} {l:List D} (hs:Sto w S γ o nk) (ht:Tr w S γ o nk w' S' γ' o' nk') (hp:Pend w0 w S γ o g l):Pend w0 w' S' γ' o' g l:=by
 obtain ⟨⟨arr,ty,hg0,hsz,hr⟩,hw0,hlt,hns,hnl⟩:=hp;refine ⟨⟨arr,ty,by rw [ht.kept g hlt hnl];exact hg0,hsz,fun i c u h1 h2=>ht.rd hs (hr i c u h1 h2)⟩,hw0,Nat.lt_of_lt_of_le hlt ht.size,fun h=>?_,fun h=>?_⟩
 ·rcases ht.s_new g h with h1 | h1 | h1
  ·exact hns h1
  ·omega
  ·exact hnl h1
 ·rcases ht.live g h with h1 | h1
  ·omega
  ·exact hnl h1
theorem Rl.adopt {E:Ent} {s:St} {a:Act} {w:World} {S:Nat→Prop} {γ:Nat→Value} (hr:Rl E s a w S γ) {g t:Nat} {l:List D} (hp:Pend E.w w S γ s.o g l) (ht:a.tmps.getD t undef=.pointer (some ⟨g,0,none⟩)) :
    Rl E { sl:=upd s.sl t (.loc s.nk 0),o:=upd s.o s.nk (some (.box (l.map .d))),nk:=s.nk+1 } a w S (upd γ s.nk (.pointer (some ⟨g,0,none⟩))):=by
  have hsto:=hr.sto.adopt hp;have hkeys:∀ u x,u < s.nk→upd s.o s.nk (some (.box (l.map .d))) u=some x→∃ y,s.o u=some y∧AO.kin y x∧upd γ s.nk (.pointer (some ⟨g,0,none⟩)) u=γ u:=by
    intro u x hu hx;rw [upd_ne _ _ (by omega)] at hx;exact ⟨x,hx,AO.kin_refl x,upd_ne _ _ (by omega)⟩
  have hstep:Tr E.w E.S E.γ E.o E.nk w S (upd γ s.nk (.pointer (some ⟨g,0,none⟩))) (upd s.o s.nk (some (.box (l.map .d)))) (s.nk+1):=by
    refine ⟨hr.tr.os,hr.tr.tape,hr.tr.output,hr.tr.size,Nat.le_succ_of_le hr.tr.nks,hr.tr.kept,hr.tr.s,hr.tr.s_new,?_,?_⟩
    · rintro g' ⟨u,x,hx,hg⟩;by_cases hu:u=s.nk
      · subst hu;rw [upd_same] at hg;simp [blk] at hg;subst hg;exact .inl hp.new
      · rw [upd_ne _ _ hu] at hx hg;exact hr.tr.live g' ⟨u,x,hx,hg⟩
    · intro u x hu hx;have hlt:u < s.nk:=Nat.lt_of_lt_of_le hu hr.tr.nks;obtain ⟨y,hy,hk,hg⟩:=hkeys u x hlt hx;obtain ⟨z,hz,hk',hg'⟩:=hr.tr.keys u y hu hy;exact ⟨z,hz,AO.kin_trans hk' hk,hg.trans hg'⟩
  refine ⟨hsto,hstep,fun u=>?_,fun u=>?_,hr.df,hr.nn⟩
  · show SR w S _ _ (upd s.sl t (.loc s.nk 0) u) _;by_cases hu:u=t
    · subst hu;rw [upd_same,ht];exact .loc _ _ _ fun cs _=>⟨g,upd_same _ _ _,rfl⟩
    · rw [upd_ne _ _ hu];exact (hr.sl u).move (fun _ h=>h) (fun _ _=>rfl) hkeys (hr.slt u)
  · show (upd s.sl t (.loc s.nk 0) u).lt (s.nk+1);by_cases hu:u=t
    · subst hu;rw [upd_same];exact Nat.lt_succ_self _
    · rw [upd_ne _ _ hu];exact SV.lt_mono (Nat.le_succ _) (hr.slt u)
section
variable {P:Program} {Θ:Tab}
theorem alloc_pend (hΘ:TabOk P Θ) {E:Ent} {s:St} {a:Act} {w:World} {S:Nat→Prop} {γ:Nat→Value} {o:Oper} {e t:Nat} {i:TI} {l:List D} {next:Act→World→Prop} {Q:Exit→Act→World→Prop} (hr:Rl E s a w S γ) (ho:o.op=.alloc e) (hd:o.dst=some t) (htn:t < E.n) (hi:Θ e=some i) (hz:i.z=some l)
    (hn:∀ u w' S' γ' g,Rl E { sl:=upd s.sl t .any,o:=s.o,nk:=s.nk } (a.put (some t) u) w' S' γ'→u=.pointer (some ⟨g,0,none⟩)→w.heap.size≤g→Pend E.w w' S' γ' s.o g l→Tr w S γ s.o s.nk w' S' γ' s.o s.nk→next (a.put (some t) u) w'):o.wp P a w next Q:=by
  have hv:vOp P Θ o.op s fun v o' nk'=>v=.loc s.nk 0∧o'=upd s.o s.nk (some (.box (l.map .d)))∧nk'=s.nk+1:=by
    rw [ho];exact .inl ⟨i,l,hi,hz,rfl,rfl,rfl⟩
  refine upon_of_eff (vOp_sound hΘ hr.fr hv) ?_;rintro u w' ⟨v,o',nk',S',γ',⟨rfl,rfl,rfl⟩,h1,h2,h3,h4⟩;have hob:upd s.o s.nk (some (.box (l.map .d))) s.nk=some (.box (l.map .d)):=upd_same _ _ _;obtain ⟨⟨g,arr,ty,hg1,hg2,hg3,hg4⟩,_⟩:=h1.box s.nk _ hob;have hold:∀ t x,s.o t=some x→t < s.nk∧upd s.o s.nk (some (.box (l.map .d))) t=some x:=fun t x hx=>by
    have:=hr.sto.o_lt t x hx;exact ⟨this,by rw [upd_ne _ _ (by omega)];exact hx⟩
  have hbg:blk (γ' s.nk)=some g:=by rw [hg1];rfl
  have hnl:¬ Live γ' s.o g:=by
    rintro ⟨t,x,hx,hb⟩;obtain ⟨hlt,hx'⟩:=hold t x hx;exact h1.apart t s.nk x _ g (by omega) hx' hob hb hbg
  have hnew:w.heap.size≤g:=by
    rcases h2.live g ⟨s.nk,_,hob,hbg⟩ with h | ⟨t,x,hx,hb⟩
    · exact h
    · obtain ⟨hlt,hx'⟩:=hold t x hx;obtain ⟨_,_,_,hge⟩:=h2.keys t x hlt hx';exact absurd ⟨t,x,hx,by rw [hge];exact hb⟩ hnl
  have hwk:Wko s.nk id (upd s.o s.nk (some (.box (l.map .d)))) s.o s.nk:=by
    refine ⟨Nat.le_refl _,fun t x hx=>?_,fun t t' x x' _ _ h=>h,fun _ _ _ _=>rfl⟩;obtain ⟨hlt,hx'⟩:=hold t x hx;refine ⟨hlt,by rw [AO.ren_id];exact hx',?_⟩;cases x with
    | box cs=>exact (hr.sto.box t cs hx).2
    | _=>trivial
  have hs':Sto w' S' γ' s.o s.nk:=hwk.sto h1;have ht':Tr w S γ s.o s.nk w' S' γ' s.o s.nk:=hwk.tr h2;have hu:u=.pointer (some ⟨g,0,none⟩):=by
    cases h3 with
    | loc _ _ _ hv=>
      obtain ⟨g',k1,k2⟩:=hv _ hob;rw [hg1] at k1;simp at k1;rw [k2,k1]
  have hp:=hr.put (d:=some t) (by simpa [dstOk] using htn) hs' ht' (.any u) trivial;rw [hd];refine hn u w' S' γ' g hp hu hnew ⟨⟨arr,ty,hg2,by simpa using hg3,fun i c x hc hx=>?_⟩,Nat.le_trans hr.tr.size hnew,(h1.away s.nk _ g hob hbg).2,(h1.away s.nk _ g hob hbg).1,hnl⟩ ht';have:=hg4 i (.d c) x (by rw [List.getElem?_map,hc];rfl) hx;cases this with
  | d _ _ h=>exact h
theorem op_stepL {E:Ent} {s:St} {a:Act} {w:World} {S:Nat→Prop} {γ:Nat→Value} (hΘ:TabOk P Θ) {o:Oper} {next:Act→World→Prop} {Q:Exit→Act→World→Prop} {K:SV→(Nat→Option AO)→Nat→Prop} (hr:Rl E s a w S γ) (hd:dstOk E.n o.dst=true) (h:vOp P Θ o.op s K)
    (hn:∀ v o' nk' u w' S' γ',K v o' nk'→Rl E { sl:=pt s.sl o.dst v,o:=o',nk:=nk' } (a.put o.dst u) w' S' γ'→Tr w S γ s.o s.nk w' S' γ' o' nk'→next (a.put o.dst u) w'):o.wp P a w next Q:=by
  refine upon_of_eff (vOp_sound hΘ hr.fr h) ?_;rintro u w' ⟨v,o',nk',S',γ',hK,h1,h2,h3,h4⟩;exact hn v o' nk' u w' S' γ' hK (hr.put hd h1 h2 h3 h4) h2
theorem g_stepL {E:Ent} {s:St} {a:Act} {w:World} {S:Nat→Prop} {γ:Nat→Value} (hΘ:TabOk P Θ) {ops:Array Oper} {o:Oper} {next:Act→World→Prop} {Q:Exit→Act→World→Prop} {v:SV} (hr:Rl E s a w S γ) (hd:dstOk E.n o.dst=true)
    (h:gOp P Θ ops o s v) (hn:∀ u w' S' γ',Rl E { sl:=pt s.sl o.dst v,o:=s.o,nk:=s.nk } (a.put o.dst u) w' S' γ'→Tr w S γ s.o s.nk w' S' γ' s.o s.nk→next (a.put o.dst u) w') :
    if Region.wanted o (yielded ops a.tmps) then o.wp P a w next Q else next (a.put o.dst undef) w:=by
  unfold gOp at h;unfold Region.wanted;split at h
  · rename_i hg;rw [hg];simp only [if_true];refine op_stepL hΘ hr hd h ?_;rintro v' o' nk' u w' S' γ' ⟨rfl,rfl,rfl⟩ hr' ht;exact hn u w' S' γ' hr' ht
  · rename_i j want hg;rw [hg];obtain ⟨c,v',h1,h2,rfl⟩:=h;have hy:=guard_yield ⟨S,γ,hr⟩ h1;simp only [hy];cases c with
    | true=>
      rw [if_pos rfl];refine op_stepL hΘ hr hd (h2 rfl) ?_;rintro v' o' nk' u w' S' γ' ⟨rfl,rfl,rfl⟩ hr' ht;exact hn u w' S' γ' (by rw [cnd_T];exact hr') ht
    | false=>
      rw [if_neg (by simp)];exact hn undef w S γ (by rw [cnd_F];exact hr.put hd hr.sto (Tr.refl _ _ _ _ _) (.tup [] [] rfl (by simp)) trivial) (Tr.refl _ _ _ _ _)
def PendAt (E:Ent) (a:Act) (w:World) (S:Nat→Prop) (γ:Nat→Value) (o:Nat→Option AO) (g t:Nat) (l:List D):Prop:=a.tmps.getD t undef=.pointer (some ⟨g,0,none⟩)∧Pend E.w w S γ o g l
theorem put_get (a:Act) (d:Option Nat) (u:Value) {t:Nat} (h:d≠some t):(a.put d u).tmps.getD t undef=a.tmps.getD t undef:=by
 cases d with
 | none=>rfl
 | some d=>
  have hne:d≠t:=fun e=>h (by rw [e]);simp [Act.put,Array.getElem?_setIfInBounds_ne hne]
theorem PendAt.step {E:Ent} {a:Act} {w w':World} {S S':Nat→Prop} {γ γ':Nat→Value} {o o':Nat→Option AO} {nk nk' g t:Nat} {l:List D} {d:Option Nat} {u:Value} (hs:Sto w S γ o nk) (ht:Tr w S γ o nk w' S' γ' o' nk') (hd:d≠some t) (h:PendAt E a w S γ o g t l) :
 PendAt E (a.put d u) w' S' γ' o' g t l:=⟨by rw [put_get a d u hd];exact h.1,h.2.tr hs ht⟩
theorem PendAt.adopt {E:Ent} {a:Act} {w:World} {S:Nat→Prop} {γ:Nat→Value} {o:Nat→Option AO} {nk g g2 t:Nat} {l l2:List D} (h:PendAt E a w S γ o g t l) (hlt:∀ t x,o t=some x→t < nk) (hne:g≠g2) :
    PendAt E a w S (upd γ nk (.pointer (some ⟨g2,0,none⟩))) (upd o nk (some (.box (l2.map .d)))) g t l:=by
  refine ⟨h.1,h.2.cells,h.2.new,h.2.lt,h.2.ns,?_⟩;rintro ⟨u,x,hx,hb⟩;by_cases hu:u=nk
  · subst hu;rw [upd_same] at hb;simp [blk] at hb;exact hne hb.symm
  · rw [upd_ne _ _ hu] at hx hb;exact h.2.nl ⟨u,x,hx,hb⟩
end
theorem slL_set {sl:Nat→SV} {prs:List (Option Nat×SV)} {lm:Array Bool} {i:Nat} {d:Option Nat} {v:SV} (huniq:Uniq prs) (hpv:prs[i]?=some (d,v)) (hi:i < lm.size):slL sl prs (lm.setIfInBounds i true)=pt (slL sl prs lm) d v:=by
 have hli:(lm.setIfInBounds i true).getD i false=true:=by simp [hi]
 have hlf:∀ j,j≠i→(lm.setIfInBounds i true).getD j false=lm.getD j false:=fun j hj=>getD_set_ne false (Ne.symm hj);funext u;by_cases hex:∃ (j:Nat) (x:SV),prs[j]?=some (some u,x)
 ·obtain ⟨j,x,hj⟩:=hex;by_cases hji:j=i
  ·subst hji;rw [hj] at hpv;simp only [Option.some.injEq,Prod.mk.injEq] at hpv;obtain ⟨h1,h2⟩:=hpv;rw [slL_hit huniq hj hli,← h1,h2];exact (upd_same _ _ _).symm
  ·have hne:d≠some u:=fun e=>hji (huniq j i u x v hj (by rw [hpv,e]));have hp:pt (slL sl prs lm) d v u=slL sl prs lm u:=by
    cases hod:d with
    | none=>rfl
    | some d=>exact upd_ne _ _ fun e=>hne (by rw [hod,e])
   rw [hp];by_cases hl:lm.getD j false=true
   ·rw [slL_hit huniq hj hl,slL_hit huniq hj (by rw [hlf j hji];exact hl)]
   ·rw [slL_miss,slL_miss]
    ·intro k y hk hlk;have:=huniq k j u y x hk hj;subst this;exact hl hlk
    ·intro k y hk hlk;have:=huniq k j u y x hk hj;subst this;rw [hlf k hji] at hlk;exact hl hlk
 ·have hne:d≠some u:=fun e=>hex ⟨i,v,by rw [hpv,e]⟩;have hp:pt (slL sl prs lm) d v u=slL sl prs lm u:=by
   cases hod:d with
   | none=>rfl
   | some d=>exact upd_ne _ _ fun e=>hne (by rw [hod,e])
  rw [hp,slL_miss,slL_miss]
  ·exact fun k y hk _=>hex ⟨k,y,hk⟩
  ·exact fun k y hk _=>hex ⟨k,y,hk⟩
structure Al where
 i:Nat
 t:Nat
 j:Nat
 l:List D
inductive KdP where
 | q (lo hi:Nat)
 | w (j:Nat)
 | a (j k:Nat)
def lsAt (al:List Al) (j:Nat):List Al:=al.filter fun b=>decide (b.j=j)
def matO:List Al→Ob→Ob
 | [],x=>x
 | b :: r,x=>matO r (upd x.1 x.2 (some (.box (b.l.map .d))),x.2+1)
def matS:List Al→(Nat→SV)→Nat→Nat→SV
 | [],sl,_=>sl
 | b :: r,sl,nk=>matS r (upd sl b.t (.loc nk 0)) (nk+1)
def setAll:List Al→Array Bool→Array Bool
 | [],lm=>lm
 | b :: r,lm=>setAll r (lm.setIfInBounds b.i true)
theorem setAll_size:∀ (r:List Al) (lm:Array Bool),(setAll r lm).size=lm.size
 | [],lm=>rfl
 | b :: r,lm=>by rw [setAll,setAll_size r];simp
theorem setAll_get:∀ (r:List Al) (lm:Array Bool) (x:Nat),(∀ b∈r,b.i < lm.size)→((setAll r lm).getD x false=true↔lm.getD x false=true∨∃ b∈r,b.i=x)
 | [],lm,x,_=>by simp [setAll]
 | b :: r,lm,x,h=>by
  rw [setAll,setAll_get r _ x (fun c hc=>by simpa using h c (by simp [hc]))];by_cases hx:b.i=x
  ·subst hx;have:b.i < lm.size:=h b (by simp);constructor
   ·intro _;exact .inr ⟨b,by simp,rfl⟩
   ·intro _;left;simp [this]
  ·rw [getD_set_ne false hx];simp [hx]
theorem matS_slL {sl0:Nat→SV} {prs:List (Option Nat×SV)} (hu:Uniq prs):∀ (r:List Al) (lm:Array Bool) (nk:Nat),(∀ (pos:Nat) (b:Al),r[pos]?=some b→prs[b.i]?=some (some b.t,.loc (nk+pos) 0)∧b.i < lm.size)→
    matS r (slL sl0 prs lm) nk=slL sl0 prs (setAll r lm)
  | [],lm,nk,_=>rfl
  | b :: r,lm,nk,h=>by
    obtain ⟨h1,h2⟩:=h 0 b rfl;have e:upd (slL sl0 prs lm) b.t (.loc nk 0)=slL sl0 prs (lm.setIfInBounds b.i true):=by
      rw [slL_set hu h1 h2];rfl
    rw [matS,setAll,e];refine matS_slL hu r _ (nk+1) fun pos c hc=>?_;obtain ⟨h3,h4⟩:=h (pos+1) c (by simpa using hc);exact ⟨by rw [show nk+1+pos=nk+(pos+1) by omega];exact h3,by simpa using h4⟩
theorem adoptAll {E:Ent} {a:Act} {w:World} {S:Nat→Prop} {G:Nat→Nat}:∀ (r:List Al) {s:St} {γ:Nat→Value},Rl E s a w S γ→(∀ b∈r,PendAt E a w S γ s.o (G b.i) b.t b.l)→r.Pairwise (fun b c=>G b.i≠G c.i)→
    ∃ γ',Rl E ⟨matS r s.sl s.nk,(matO r (s.o,s.nk)).1,(matO r (s.o,s.nk)).2⟩ a w S γ'∧∀ g t l,(∀ b∈r,g≠G b.i)→PendAt E a w S γ s.o g t l→PendAt E a w S γ' (matO r (s.o,s.nk)).1 g t l
  | [],s,γ,hr,_,_=>⟨γ,hr,fun _ _ _ _ h=>h⟩
  | b :: r,s,γ,hr,hp,hd=>by
    obtain ⟨hd1,hd2⟩:=List.pairwise_cons.1 hd;have hb:=hp b (by simp);have hr2:=hr.adopt hb.2 hb.1;obtain ⟨γ',k1,k2⟩:=adoptAll r hr2 (fun c hc=>(hp c (by simp [hc])).adopt hr.sto.o_lt (fun e=>hd1 c hc e.symm)) hd2;exact ⟨γ',k1,fun g t l hg hpd=>k2 g t l (fun c hc=>hg c (by simp [hc])) (hpd.adopt hr.sto.o_lt (hg b (by simp)))⟩
theorem gdc_wanted2 {E:Ent} {s:St} {a:Act} {w:World} {ops:Array Oper} {o:Oper} {c:Bool} (hr:Rel E s a w) (h:gdc ops s o.guard c):Region.wanted o (yielded ops a.tmps)=c:=by
 unfold gdc at h;unfold Region.wanted;split at h
 ·rename_i hg;rw [hg];exact h.symm
 ·rename_i j want hg;rw [hg];exact guard_yield hr h
section
variable {P:Program} {Θ:Tab} {n k0:Nat} {Q:Exit→St→Prop}
def eOpP (P:Program) (Θ:Tab) (ops:Array Oper) (ph:Nat→Ob) (al:List Al) (o:Oper) (sl:Nat→SV) (v:SV):KdP→Prop
 | .q lo hi=>allP (hi - lo) (fun p=>gOp P Θ ops o ⟨sl,(ph p).1,(ph p).2⟩ v) lo
 | .w j=>∃ c v2,gdc ops ⟨sl,(matO (lsAt al j) (ph j)).1,(matO (lsAt al j) (ph j)).2⟩ o.guard c∧(c=true→vOp P Θ o.op ⟨sl,(matO (lsAt al j) (ph j)).1,(matO (lsAt al j) (ph j)).2⟩ fun v' o' nk'=>v'=v2∧o'=(ph (j+1)).1∧nk'=(ph (j+1)).2)∧(c=false→ph (j+1)=matO (lsAt al j) (ph j))∧v=cnd c v2
 | .a j k=>v=.loc ((ph j).2+k) 0
structure FitP (Θ:Tab) (ops:Array Oper) (kd:List KdP) (wr:List Nat) (al:List Al):Prop where
 kl:kd.length=ops.size
 nd:wr.Nodup
 wk:∀ j i,wr[j]?=some i→kd[i]?=some (KdP.w j)
 q:∀ i lo hi,kd[i]?=some (KdP.q lo hi)→lo≤wr.length∧∀ j x,wr[j]?=some x→(j < lo→ancB ops.toList i x=true)∧(hi≤j→ancB ops.toList x i=true)
 w:∀ i j,kd[i]?=some (KdP.w j)→wr[j]?=some i∧∀ j' x,wr[j']?=some x→j' < j→ancB ops.toList i x=true
 a:∀ i j k,kd[i]?=some (KdP.a j k)→∃ b∈al,b.i=i∧b.j=j∧(lsAt al j)[k]?=some b
 aA:∀ b∈al,(∃ k,kd[b.i]?=some (KdP.a b.j k))∧∃ x,wr[b.j]?=some x∧ancB ops.toList x b.i=true
 us:∀ b∈al,∀ i o,ops[i]?=some o→b.t∈o.looksAt ops→wr[b.j]?=some i∨∃ x,wr[b.j]?=some x∧ancB ops.toList i x=true
 op:∀ b∈al,∃ o e i,ops[b.i]?=some o∧o.op=.alloc e∧o.guard=none∧o.dst=some b.t∧Θ e=some i∧i.z=some b.l
 inj:∀ b∈al,∀ c∈al,b.i=c.i→b=c
 ndL:∀ j,(lsAt al j).Pairwise fun b c=>b.i≠c.i
theorem WP.drawnP (hΘ:TabOk P Θ) (hm:P.follows .mixedOrders=true) {sl:Nat→SV} {id:Nat} {ops:Array Oper} {kd:List KdP} {wr:List Nat} {al:List Al} (fit:FitP Θ ops kd wr al) (ph:Nat→Ob) (vs:List SV) (hd:(ops.toList.all fun o=>dstOk n o.dst)=true) (hflow:flowOk ops=true)
    (hvl:vs.length=ops.size) (hany:∀ b∈al,sl b.t=.any)
    (hop:∀ (i:Nat) (o:Oper) (v:SV) (k:KdP),ops[i]?=some o→vs[i]?=some v→kd[i]?=some k→eOpP P Θ ops ph al o (slAt sl (((ops.toList.map (·.dst)).zip vs).take i)) v k)
    (hfin:Q .normal ⟨slAt sl ((ops.toList.map (·.dst)).zip vs),(ph wr.length).1,(ph wr.length).2⟩):WP P n k0 (.region id ops true) ⟨sl,(ph 0).1,(ph 0).2⟩ Q:=by
  intro E a w e1 e2 hrel;refine wp_region_any hm ?_;generalize hprs:(ops.toList.map (·.dst)).zip vs=prs at hop hfin;have hget:∀ (j:Nat) (o:Oper),ops[j]?=some o→∃ v,vs[j]?=some v∧prs[j]?=some (o.dst,v):=fun j o hj=>by
    have hlt:j < ops.size:=(Array.getElem?_eq_some_iff.1 hj).1;have hv:vs[j]?=some (vs[j]'(by rw [hvl];exact hlt)):=List.getElem?_eq_getElem _;refine ⟨_,hv,?_⟩;rw [← hprs,List.getElem?_zip_eq_some];refine ⟨?_,hv⟩;rw [List.getElem?_map];have:ops.toList[j]?=some o:=by simpa using hj
    rw [this];rfl
  have hback:∀ (j:Nat) (d:Option Nat) (v:SV),prs[j]?=some (d,v)→∃ o,ops[j]?=some o∧o.dst=d∧vs[j]?=some v:=fun j d v hj=>by
    rw [← hprs,List.getElem?_zip_eq_some,List.getElem?_map] at hj;obtain ⟨h1,h2⟩:=hj;obtain ⟨o,ho,rfl⟩:=Option.map_eq_some_iff.1 h1;exact ⟨o,by simpa using ho,rfl,h2⟩
  have huniq:Uniq prs:=fun i j u v x hi hj=>by
    obtain ⟨o,ho,hod,_⟩:=hback i _ v hi;obtain ⟨p,hp,hpd,_⟩:=hback j _ x hj;have:=(flow_spec hflow ho).2 j p hp;simp only [flowAt,hpd,Bool.and_eq_true,Bool.or_eq_true,beq_iff_eq] at this;rcases this.1 with h1 | h1
    · exact h1
    · simp [hod] at h1
  have hons:∀ {o:Oper} {e:Edge},e∈o.after→Region.binds .any e=true→e.on∈onsOf o:=fun {o e} he hb=>by
    simp only [onsOf,List.mem_map,List.mem_filter];exact ⟨e,⟨by simpa using he,hb⟩,rfl⟩
  have hons':∀ {o:Oper} {j:Nat},j∈onsOf o→∃ e∈o.after,Region.binds .any e=true∧e.on=j:=fun {o j} hj=>by
    simp only [onsOf,List.mem_map,List.mem_filter] at hj;obtain ⟨e,⟨h1,h2⟩,h3⟩:=hj;exact ⟨e,by simpa using h1,h2,h3⟩
  have honlt:∀ (i:Nat) (o:Oper),ops.toList[i]?=some o→∀ k∈onsOf o,k < i:=fun i o ho=>(flow_spec hflow (by simpa using ho)).1;have hpA:∀ b∈al,b.i < ops.size∧∃ v,prs[b.i]?=some (some b.t,v):=fun b hb=>by
    obtain ⟨o,e,i,h1,_,_,h4,_⟩:=fit.op b hb;obtain ⟨v,_,h6⟩:=hget b.i o h1;exact ⟨(Array.getElem?_eq_some_iff.1 h1).1,v,by rw [h6,h4]⟩
  have hpL:∀ (j pos:Nat) (b:Al),(lsAt al j)[pos]?=some b→prs[b.i]?=some (some b.t,.loc ((ph j).2+pos) 0):=fun j pos b hb=>by
    have hm:=List.mem_of_getElem? hb;simp only [lsAt,List.mem_filter,decide_eq_true_eq] at hm;obtain ⟨hbm,rfl⟩:=hm;obtain ⟨o,e,i,h1,_,_,h4,_⟩:=fit.op b hbm;obtain ⟨v,h5,h6⟩:=hget b.i o h1;obtain ⟨⟨k,hk⟩,_⟩:=fit.aA b hbm;have hv:=hop b.i o v _ h1 h5 hk;obtain ⟨c,hc,hci,hcj,hck⟩:=fit.a _ _ _ hk;obtain rfl:=fit.inj c hc b hbm hci;have hkp:k=pos:=by
      obtain ⟨q1,q2⟩:=List.getElem?_eq_some_iff.1 hck;obtain ⟨q3,q4⟩:=List.getElem?_eq_some_iff.1 hb;rcases Nat.lt_trichotomy k pos with hlt | heq | hgt
      · exact absurd (by rw [q2,q4]) ((List.pairwise_iff_getElem.1 (fit.ndL c.j)) k pos q1 q3 hlt)
      · exact heq
      · exact absurd (by rw [q2,q4]) ((List.pairwise_iff_getElem.1 (fit.ndL c.j)) pos k q3 q1 hgt)
    rw [h6,h4];simp only [eOpP] at hv;rw [hv,hkp]
  have hwlt:∀ j i,wr[j]?=some i→i < ops.size:=fun j i hj=>by
    have:=(List.getElem?_eq_some_iff.1 (fit.wk j i hj)).1;rw [fit.kl] at this;exact this
  have hsl:∀ (listed lm:Array Bool) (i:Nat) (o:Oper),(∀ (j:Nat) (p:Oper),ops[j]?=some p→listed.getD j false=true→∀ k∈onsOf p,listed.getD k false=true)→(∀ x,lm.getD x false=true→listed.getD x false=true)→
      (∀ x,listed.getD x false=true→lm.getD x false=true∨∃ b∈al,b.i=x∧b.t ∉ o.looksAt ops)→
      ops[i]?=some o→listed.getD i false=false→(∀ k∈onsOf o,listed.getD k false=true)→∀ u∈o.looksAt ops,slAt sl (prs.take i) u=slL sl prs lm u:=by
    intro listed lm i o hcl hle hto ho hif hon u hu;by_cases hex:∃ (j:Nat) (x:SV),prs[j]?=some (some u,x)
    · obtain ⟨j,x,hj⟩:=hex;obtain ⟨p,hp,hpd,_⟩:=hback j _ x hj;have hfl:=(flow_spec hflow ho).2 j p hp;have hlook:(o.looksAt ops).contains u=true:=by simpa using hu
      simp only [flowAt,hpd,Bool.and_eq_true,Bool.or_eq_true,beq_iff_eq,hlook,Bool.not_true,Bool.false_eq_true,false_or,decide_eq_true_eq,List.contains_eq_mem] at hfl;rcases hfl.2 with ⟨h1,h2⟩ | ⟨h1,h2⟩
      · have hlj:lm.getD j false=true:=by
          rcases hto j (hon j h2) with h | ⟨b,hb,hbi,hbt⟩
          · exact h
          · obtain ⟨_,v,hv⟩:=hpA b hb;rw [hbi,hj] at hv;simp at hv;rw [hv.1] at hu;exact absurd hu hbt
        rw [slL_hit huniq hj hlj];refine slAt_hit _ _ j (by rw [List.getElem?_take,if_pos h1];exact hj) fun k y hk=>?_;rw [List.getElem?_take] at hk;split at hk
        · exact huniq k j u y x hk hj
        · cases hk
      · rw [slAt_miss,slL_miss]
        · intro k y hk hl;have:=huniq k j u y x hk hj;subst this;have:=hcl k p hp (hle k hl) i h2;rw [hif] at this;cases this
        · intro y hy;obtain ⟨k,hk⟩:=List.getElem?_of_mem hy;rw [List.getElem?_take] at hk;split at hk
          · have:=huniq k j u y x hk hj;omega
          · cases hk
    · rw [slAt_miss,slL_miss]
      · exact fun k y hk _=>hex ⟨k,y,hk⟩
      · intro y hy;obtain ⟨k,hk⟩:=List.getElem?_of_mem (List.mem_of_mem_take hy);exact hex ⟨k,y,hk⟩
  have main:∀ (fuel:Nat) (listed lm:Array Bool) (p:Nat) (G:Nat→Nat) (a:Act) (w:World) (S:Nat→Prop) (γ:Nat→Value),listed.size=ops.size→lm.size=ops.size→unl listed ops.size≤fuel→p≤wr.length→
      (∀ j i,wr[j]?=some i→(listed.getD i false=true↔j < p))→(∀ (j:Nat) (p:Oper),ops[j]?=some p→listed.getD j false=true→∀ k∈onsOf p,listed.getD k false=true)→
      (∀ x,(∀ b∈al,b.i≠x)→lm.getD x false=listed.getD x false)→(∀ b∈al,(lm.getD b.i false=true↔b.j < p))→
      Rl E ⟨slL sl prs lm,(ph p).1,(ph p).2⟩ a w S γ→
      (∀ b∈al,listed.getD b.i false=true→p≤b.j→PendAt E a w S γ (ph p).1 (G b.i) b.t b.l)→
      (∀ b∈al,∀ c∈al,listed.getD b.i false=true→listed.getD c.i false=true→p≤b.j→p≤c.j→b.i≠c.i→G b.i≠G c.i)→
      wpAny P .any ops (fun e a' w'=>∃ s',Rel E s' a' w'∧Q e s') fuel listed a w:=by
    intro fuel;have hancw:∀ (listed:Array Bool),(∀ (j:Nat) (p:Oper),ops[j]?=some p→listed.getD j false=true→∀ k∈onsOf p,listed.getD k false=true)→listed.size=ops.size→∀ (y x:Nat),ancB ops.toList y x=true→listed.getD y false=true→listed.getD x false=true:=by
      intro listed hcl hsz y x hx hy;cases hq:ops[y]? with
      | none=>
        have:listed.getD y false=false:=by
          have:=Array.getElem?_eq_none_iff.1 hq;have:¬ y < listed.size:=by omega
          simp [this]
        rw [this] at hy;cases hy
      | some q=>
        refine ancs_closed honlt (fun j p hj=>hcl j p (by simpa using hj)) ops.toList.length y q (by simpa using (Array.getElem?_eq_some_iff.1 hq).1) (by simpa using hq) (hcl y q hq hy) x ?_;simpa [ancB] using hx
    have hdone:∀ (listed lm:Array Bool) (p:Nat) (a:Act) (w:World),listed.size=ops.size→lm.size=ops.size→p≤wr.length→(∀ j i,wr[j]?=some i→(listed.getD i false=true↔j < p))→
        (∀ x,(∀ b∈al,b.i≠x)→lm.getD x false=listed.getD x false)→(∀ b∈al,(lm.getD b.i false=true↔b.j < p))→
        (∀ i,i < ops.size→listed.getD i true=true)→Rel E ⟨slL sl prs lm,(ph p).1,(ph p).2⟩ a w→∃ s',Rel E s' a w∧Q .normal s':=by
      intro listed lm p a w hsz hlsz hp hwp ht1 ht2 hL hr;have hLf:∀ i,i < ops.size→listed.getD i false=true:=fun i hi=>by
        have h1:=hL i hi;have:i < listed.size:=by omega
        simp [this] at h1 ⊢;exact h1
      have hpe:p=wr.length:=by
        by_cases h:p < wr.length
        · have h1:=hwp p wr[p] (List.getElem?_eq_getElem h);have:=h1.1 (hLf _ (hwlt p _ (List.getElem?_eq_getElem h)));omega
        · omega
      subst hpe;have hlm:∀ i,i < ops.size→lm.getD i false=true:=fun i hi=>by
        by_cases hx:∃ b∈al,b.i=i
        · obtain ⟨b,hb,rfl⟩:=hx;obtain ⟨_,x,hx,_⟩:=fit.aA b hb;exact (ht2 b hb).2 (List.getElem?_eq_some_iff.1 hx).1
        · rw [ht1 i (fun b hb e=>hx ⟨b,hb,e⟩)];exact hLf i hi
      have hall:slL sl prs lm=slAt sl prs:=by
        funext u;by_cases hex:∃ (j:Nat) (x:SV),prs[j]?=some (some u,x)
        · obtain ⟨j,x,hj⟩:=hex;obtain ⟨q,hq,_,_⟩:=hback j _ x hj;rw [slL_hit huniq hj (hlm j (Array.getElem?_eq_some_iff.1 hq).1),slAt_hit _ _ j hj fun k y hk=>huniq k j u y x hk hj]
        · rw [slL_miss,slAt_miss]
          · intro y hy;obtain ⟨k,hk⟩:=List.getElem?_of_mem hy;exact hex ⟨k,y,hk⟩
          · exact fun k y hk _=>hex ⟨k,y,hk⟩
      rw [hall] at hr;exact ⟨_,hr,hfin⟩
    induction fuel with
    | zero=>
      intro listed lm p G a w S γ hsz hlsz hun hp hwp hcl ht1 ht2 hr hpend hdis;have hL:=unl_zero ops.size (by omega) (listed:=listed);obtain ⟨s',h1,h2⟩:=hdone listed lm p a w hsz hlsz hp hwp ht1 ht2 hL ⟨S,γ,hr⟩;refine ⟨?_,s',h1,h2⟩;rw [List.eq_nil_iff_forall_not_mem];intro i hi;rw [mem_ready] at hi;obtain ⟨h0,o,ho,_⟩:=hi;have:=hL i (Array.getElem?_eq_some_iff.1 ho).1;rw [this] at h0;cases h0
    | succ fuel ih=>
      intro listed lm p G a w S γ hsz hlsz hun hp hwp hcl ht1 ht2 hr hpend hdis;refine ⟨fun hnil=>?_,fun i hi=>?_⟩
      · have hL:∀ i,i < ops.size→listed.getD i true=true:=by
          intro i
          induction i using Nat.strongRecOn with
          | _ i ihi=>
            intro hlt;by_cases hl:listed.getD i true=true
            · exact hl
            · exfalso;simp only [Bool.not_eq_true] at hl;have hmem:i∈Region.ready .any ops listed:=by
                rw [mem_ready];refine ⟨hl,ops[i],by simp [hlt],fun e he hb=>?_⟩;have hlt2:=(flow_spec hflow (i:=i) (o:=ops[i]) (by simp [hlt])).1 e.on (hons he hb);have:=ihi e.on hlt2 (by omega);have hlt3:e.on < listed.size:=by omega
                simp [hlt3] at this ⊢;exact this
              rw [hnil] at hmem;cases hmem
        exact hdone listed lm p a w hsz hlsz hp hwp ht1 ht2 hL ⟨S,γ,hr⟩
      · have hi':=hi;rw [mem_ready] at hi';obtain ⟨h0,o,ho,hon⟩:=hi';have hilt:i < ops.size:=(Array.getElem?_eq_some_iff.1 ho).1;have h0f:listed.getD i false=false:=by
          have:i < listed.size:=by omega
          simp [this] at h0 ⊢;exact h0
        obtain ⟨v,hv,hpv⟩:=hget i o ho;have hon':∀ k∈onsOf o,listed.getD k false=true:=fun k hk=>by
          obtain ⟨e,h1,h2,rfl⟩:=hons' hk;exact hon e h1 h2
        have hanc:∀ k,ancB ops.toList i k=true→listed.getD k false=true:=fun k hk=>by
          refine ancs_closed honlt (fun j p hj=>hcl j p (by simpa using hj)) ops.toList.length i o (by simpa using hilt) (by simpa using ho) hon' k ?_;simpa [ancB] using hk
        have hle:∀ x,lm.getD x false=true→listed.getD x false=true:=fun x hx=>by
          by_cases hex:∃ b∈al,b.i=x
          · obtain ⟨b,hb,rfl⟩:=hex;obtain ⟨_,y,hy,hya⟩:=fit.aA b hb;exact hancw listed hcl hsz y b.i hya ((hwp b.j y hy).2 ((ht2 b hb).1 hx))
          · rw [← ht1 x (fun b hb e=>hex ⟨b,hb,e⟩)];exact hx
        have hdo:dstOk E.n o.dst=true:=by
          rw [e1];exact List.all_eq_true.1 hd o (by
            have:ops.toList[i]?=some o:=by simpa using ho
            exact List.mem_of_getElem? this)
        have hcl2:∀ (j:Nat) (p:Oper),ops[j]?=some p→(listed.setIfInBounds i true).getD j false=true→∀ k∈onsOf p,(listed.setIfInBounds i true).getD k false=true:=by
          intro j p hj hl k hk;by_cases hji:j=i
          · subst hji;rw [ho] at hj;simp only [Option.some.injEq] at hj;subst hj;exact getD_set_true (hon' k hk)
          · rw [getD_set_ne false (Ne.symm hji)] at hl;exact getD_set_true (hcl j p hj hl k hk)
        have hun2:unl (listed.setIfInBounds i true) ops.size≤fuel:=by
          have:=unl_set h0 ops.size;rw [if_pos hilt] at this;omega
        have hseti:(listed.setIfInBounds i true).getD i false=true:=by
          have:i < listed.size:=by rw [hsz];exact hilt
          simp [this]
        obtain ⟨k,hk⟩:∃ k,kd[i]?=some k:=⟨_,List.getElem?_eq_getElem (by rw [fit.kl];exact hilt)⟩;have he:=hop i o v k ho hv hk;have hnot:(∀ j k',kd[i]?≠some (KdP.a j k'))→∀ b∈al,b.i≠i:=fun h b hb e=>by
          obtain ⟨⟨k',hk'⟩,_⟩:=fit.aA b hb;rw [e] at hk';exact h _ _ hk'
        have hdne:∀ b∈al,b.i≠i→o.dst≠some b.t:=fun b hb hne e=>by
          obtain ⟨_,x,hx⟩:=hpA b hb;rw [e] at hpv;exact hne (huniq b.i i b.t x v hx hpv)
        show wpOp P ops _ i _ a w;unfold wpOp;rw [ho];simp only;cases k with
        | q lo hi=>
          obtain ⟨hlo,hky⟩:=fit.q i lo hi hk;have hni:=hnot (fun j k' h=>by rw [hk] at h;cases h);have hnw:∀ j,wr[j]?≠some i:=fun j hj=>by
            have:=fit.wk j i hj;rw [hk] at this;cases this
          have hplo:lo≤p:=by
            rcases Nat.lt_or_ge p lo with h | h
            · have hlt:p < wr.length:=by omega
              have hw:=List.getElem?_eq_getElem hlt;have h1:=hanc _ ((hky p _ hw).1 h);have:=(hwp p _ hw).1 h1;omega
            · exact h
          have hphi:p≤hi:=by
            rcases Nat.lt_or_ge hi p with h | h
            · have hlt:hi < wr.length:=by omega
              have hw:=List.getElem?_eq_getElem hlt;have h1:=(hwp hi _ hw).2 h;have h2:=hancw listed hcl hsz _ _ ((hky hi _ hw).2 (Nat.le_refl _)) h1;rw [h0f] at h2;cases h2
            · exact h
          have hg0:=allP_at (hi - lo) lo p he hplo (by omega);have hto:∀ x,listed.getD x false=true→lm.getD x false=true∨∃ b∈al,b.i=x∧b.t ∉ o.looksAt ops:=fun x hx=>by
            by_cases hex:∃ b∈al,b.i=x
            · obtain ⟨b,hb,rfl⟩:=hex;by_cases hbj:b.j < p
              · exact .inl ((ht2 b hb).2 hbj)
              · refine .inr ⟨b,hb,rfl,fun hlk=>?_⟩;rcases fit.us b hb i o ho hlk with h | ⟨y,h1,h2⟩
                · exact hnw _ h
                · exact hbj ((hwp _ _ h1).1 (hanc _ h2))
            · left;rw [ht1 x (fun b hb e=>hex ⟨b,hb,e⟩)];exact hx
          have hg:gOp P Θ ops o ⟨slL sl prs lm,(ph p).1,(ph p).2⟩ v:=gOp_congr (s:=⟨slAt sl (prs.take i),(ph p).1,(ph p).2⟩) (fun u hu=>hsl listed lm i o hcl hle hto ho h0f hon' u hu) rfl rfl hg0;have hstep:=g_stepL (Q:=fun e a' w'=>∃ s',Rel E s' a' w'∧Q e s') (next:=wpAny P .any ops (fun e a' w'=>∃ s',Rel E s' a' w'∧Q e s') fuel (listed.setIfInBounds i true)) hΘ hr hdo hg (fun u w' S' γ' hr' ht=>by
            refine ih _ (lm.setIfInBounds i true) p G _ w' S' γ' (by simpa using hsz) (by simpa using hlsz) hun2 hp (fun j x hj=>?_) hcl2 (fun x hx=>?_) (fun b hb=>?_) (by rw [slL_set huniq hpv (by omega)];exact hr') (fun b hb hl hpj=>?_) (fun b hb c hc hl1 hl2 hp1 hp2 hne=>?_)
            · have hne:x≠i:=fun e=>hnw j (by rw [hj,e]);rw [getD_set_ne false (Ne.symm hne)];exact hwp j x hj
            · by_cases hxi:x=i
              · subst hxi;rw [hseti];have:x < lm.size:=by omega
                simp [this]
              · rw [getD_set_ne false (Ne.symm hxi),getD_set_ne false (Ne.symm hxi)];exact ht1 x hx
            · rw [getD_set_ne false (Ne.symm (hni b hb))];exact ht2 b hb
            · rw [getD_set_ne false (Ne.symm (hni b hb))] at hl;exact (hpend b hb hl hpj).step hr.sto ht (hdne b hb (hni b hb))
            · rw [getD_set_ne false (Ne.symm (hni b hb))] at hl1;rw [getD_set_ne false (Ne.symm (hni c hc))] at hl2;exact hdis b hb c hc hl1 hl2 hp1 hp2 hne)
          split
          · rename_i hw;rw [if_pos hw] at hstep;exact .inl hstep
          · rename_i hw;rw [if_neg hw] at hstep;exact hstep
        | a j k=>
          obtain ⟨b,hb,rfl,rfl,hbk⟩:=fit.a i j k hk;obtain ⟨o',e',ti,h1,hopa,hgn,hdst,hti,htz⟩:=fit.op b hb;rw [ho] at h1;simp only [Option.some.injEq] at h1;subst h1;obtain ⟨_,y,hy,hya⟩:=fit.aA b hb;have hpj:p≤b.j:=by
            rcases Nat.lt_or_ge b.j p with h | h
            · have:=hancw listed hcl hsz y b.i hya ((hwp b.j y hy).2 h);rw [h0f] at this;cases this
            · exact h
          have hwant:Region.wanted o (yielded ops a.tmps)=true:=by simp [Region.wanted,hgn]
          rw [if_pos hwant];have htn:b.t < E.n:=by
            have:=hdo;rw [hdst] at this;simpa [dstOk] using this
          have hrest:∀ c∈al,c≠b→c.i≠b.i:=fun c hc hne e=>hne (fit.inj c hc b hb e);refine .inl (alloc_pend hΘ hr hopa hdst htn hti htz fun u w' S' γ' g hr' hu hnew hpd ht=>?_);have hsame:upd (slL sl prs lm) b.t .any=slL sl prs lm:=by
            funext z;by_cases hz:z=b.t
            · subst hz;rw [upd_same,slL_miss,hany b hb];intro q x hq hl;obtain ⟨_,x2,hx2⟩:=hpA b hb;have:=huniq q b.i b.t x x2 hq hx2;subst this;have:=(ht2 b hb).1 hl;omega
            · rw [upd_ne _ _ hz]
          rw [hsame] at hr';have hput:(a.put (some b.t) u).tmps.getD b.t undef=u:=by
            have:b.t < a.tmps.size:=by rw [hr.nn];exact htn
            simp [Act.put,this]
          refine ih _ lm p (fun x=>if x=b.i then g else G x) _ w' S' γ' (by simpa using hsz) hlsz hun2 hp (fun j x hj=>?_) hcl2 (fun x hx=>?_) ht2 hr' (fun c hc hl hpj'=>?_) (fun c hc d hdd hl1 hl2 hp1 hp2 hne=>?_)
          · have hne:x≠b.i:=fun e=>by
              have:=fit.wk j x hj;rw [e,hk] at this;cases this
            rw [getD_set_ne false (Ne.symm hne)];exact hwp j x hj
          · rw [getD_set_ne false (hx b hb)];exact ht1 x hx
          · by_cases hcb:c=b
            · subst hcb;simp only [if_true];exact ⟨by rw [hput,hu],hpd⟩
            · have hci:=hrest c hc hcb;simp only [if_neg hci];rw [getD_set_ne false (Ne.symm hci)] at hl;have:=hdne c hc hci;rw [hdst] at this;exact (hpend c hc hl hpj').step hr.sto ht this
          · by_cases hcb:c.i=b.i
            · by_cases hdb:d.i=b.i
              · exact absurd (hcb.trans hdb.symm) hne
              · simp only [if_pos hcb,if_neg hdb];rw [getD_set_ne false (Ne.symm hdb)] at hl2;have:=(hpend d hdd hl2 hp2).2.lt;omega
            · by_cases hdb:d.i=b.i
              · simp only [if_neg hcb,if_pos hdb];rw [getD_set_ne false (Ne.symm hcb)] at hl1;have:=(hpend c hc hl1 hp1).2.lt;omega
              · simp only [if_neg hcb,if_neg hdb];rw [getD_set_ne false (Ne.symm hcb)] at hl1;rw [getD_set_ne false (Ne.symm hdb)] at hl2;exact hdis c hc d hdd hl1 hl2 hp1 hp2 hne
        | w j=>
          obtain ⟨hwj,hky⟩:=fit.w i j hk;have hni:=hnot (fun j k' h=>by rw [hk] at h;cases h);have hjlt:j < wr.length:=(List.getElem?_eq_some_iff.1 hwj).1;have hpj:p=j:=by
            have h1:¬ j < p:=fun h=>by
              have:=(hwp j i hwj).2 h;rw [h0f] at this;cases this
            rcases Nat.lt_or_ge p j with h | h
            · have hlt:p < wr.length:=by omega
              have hw:=List.getElem?_eq_getElem hlt;have:=(hwp p _ hw).1 (hanc _ (hky p _ hw h));omega
            · omega
          subst hpj;have hmemL:∀ b,b∈lsAt al p↔b∈al∧b.j=p:=fun b=>by simp [lsAt]
          have hlis:∀ b∈al,b.j=p→listed.getD b.i false=true:=fun b hb hbj=>by
            obtain ⟨_,y,hy,hya⟩:=fit.aA b hb;rw [hbj,hwj] at hy;simp only [Option.some.injEq] at hy;subst hy;exact hanc _ hya
          obtain ⟨γ2,hr2,hpk⟩:=adoptAll (G:=G) (lsAt al p) hr (fun b hb=>by
            obtain ⟨h1,h2⟩:=(hmemL b).1 hb;exact hpend b h1 (hlis b h1 h2) (by omega)) (by
            refine (fit.ndL p).imp_of_mem fun {b c} hb hc hne=>?_;obtain ⟨h1,h2⟩:=(hmemL b).1 hb;obtain ⟨h3,h4⟩:=(hmemL c).1 hc;exact hdis b h1 c h3 (hlis b h1 h2) (hlis c h3 h4) (by omega) (by omega) hne)
          have hslots:=matS_slL (sl0:=sl) huniq (lsAt al p) lm (ph p).2 (fun pos b hb=>⟨hpL p pos b hb,by
            have:=(hpA b ((hmemL b).1 (List.mem_of_getElem? hb)).1).1;omega⟩)
          simp only [hslots] at hr2;have hsg:=setAll_get (lsAt al p) lm;have hsg':∀ x,((setAll (lsAt al p) lm).getD x false=true↔lm.getD x false=true∨∃ b∈lsAt al p,b.i=x):=fun x=>hsg x (fun b hb=>by
            have:=(hpA b ((hmemL b).1 hb).1).1;omega)
          have hsz2:=setAll_size (lsAt al p) lm;generalize hlm2:setAll (lsAt al p) lm=lm2 at hr2 hsg' hsz2;have hle2:∀ x,lm2.getD x false=true→listed.getD x false=true:=fun x hx=>by
            rcases (hsg' x).1 hx with h | ⟨b,hb,rfl⟩
            · exact hle x h
            · obtain ⟨h1,h2⟩:=(hmemL b).1 hb;exact hlis b h1 h2
          have hto:∀ x,listed.getD x false=true→lm2.getD x false=true∨∃ b∈al,b.i=x∧b.t ∉ o.looksAt ops:=fun x hx=>by
            by_cases hex:∃ b∈al,b.i=x
            · obtain ⟨b,hb,rfl⟩:=hex;by_cases hbj:b.j < p
              · exact .inl ((hsg' _).2 (.inl ((ht2 b hb).2 hbj)))
              · by_cases hbp:b.j=p
                · exact .inl ((hsg' _).2 (.inr ⟨b,(hmemL b).2 ⟨hb,hbp⟩,rfl⟩))
                · refine .inr ⟨b,hb,rfl,fun hlk=>?_⟩;rcases fit.us b hb i o ho hlk with h | ⟨y,h1,h2⟩
                  · obtain ⟨q1,q2⟩:=List.getElem?_eq_some_iff.1 h;obtain ⟨q3,q4⟩:=List.getElem?_eq_some_iff.1 hwj;rcases Nat.lt_trichotomy b.j p with hlt | heq | hgt
                    · exact hbj hlt
                    · exact hbp heq
                    · exact absurd (q4.trans q2.symm) ((List.pairwise_iff_getElem.1 fit.nd) p b.j q3 q1 hgt)
                  · exact hbj ((hwp _ _ h1).1 (hanc _ h2))
            · left;refine (hsg' x).2 (.inl ?_);rw [ht1 x (fun b hb e=>hex ⟨b,hb,e⟩)];exact hx
          obtain ⟨c,v2,hgc,hvo,hsame,rfl⟩:=he;have hgc2:gdc ops ⟨slL sl prs lm2,(matO (lsAt al p) ((ph p).1,(ph p).2)).1,(matO (lsAt al p) ((ph p).1,(ph p).2)).2⟩ o.guard c:=by
            unfold gdc at hgc ⊢;split at hgc
            · exact hgc
            · rename_i j want hg;have hgs:gsl ops ⟨slL sl prs lm2,(matO (lsAt al p) ((ph p).1,(ph p).2)).1,(matO (lsAt al p) ((ph p).1,(ph p).2)).2⟩ j=gsl ops ⟨slAt sl (prs.take i),(matO (lsAt al p) (ph p)).1,(matO (lsAt al p) (ph p)).2⟩ j:=by
                unfold gsl;split
                · rename_i d hd;refine (hsl listed lm2 i o hcl hle2 hto ho h0f hon' d ?_).symm;simp only [Oper.looksAt,List.mem_append,List.mem_filterMap];right;rw [hg];simp [hd]
                · rfl
              rw [hgs];exact hgc
          have hlast:∀ (u:Value) (w':World) (S':Nat→Prop) (γ':Nat→Value),Rl E { sl:=pt (slL sl prs lm2) o.dst (cnd c v2),o:=(ph (p+1)).1,nk:=(ph (p+1)).2 } (a.put o.dst u) w' S' γ'→
              Tr w S γ2 (matO (lsAt al p) ((ph p).1,(ph p).2)).1 (matO (lsAt al p) ((ph p).1,(ph p).2)).2 w' S' γ' (ph (p+1)).1 (ph (p+1)).2→wpAny P .any ops (fun e a' w'=>∃ s',Rel E s' a' w'∧Q e s') fuel (listed.setIfInBounds i true) (a.put o.dst u) w':=by
            intro u w' S' γ' hr' ht;refine ih _ (lm2.setIfInBounds i true) (p+1) G _ w' S' γ' (by simpa using hsz) (by simp [hsz2,hlsz]) hun2 (by omega) (fun j x hj=>?_) hcl2 (fun x hx=>?_) (fun b hb=>?_) (by rw [slL_set huniq hpv (by omega)];exact hr') (fun b hb hl hpb=>?_) (fun b hb c hc hl1 hl2 hp1 hp2 hne=>?_)
            · by_cases hx:x=i
              · subst hx;have hjp:j=p:=by
                  obtain ⟨h1a,h1b⟩:=List.getElem?_eq_some_iff.1 hj;obtain ⟨h2a,h2b⟩:=List.getElem?_eq_some_iff.1 hwj;rcases Nat.lt_trichotomy j p with hlt | heq | hgt
                  · exact absurd (h1b.trans h2b.symm) ((List.pairwise_iff_getElem.1 fit.nd) j p h1a h2a hlt)
                  · exact heq
                  · exact absurd (h2b.trans h1b.symm) ((List.pairwise_iff_getElem.1 fit.nd) p j h2a h1a hgt)
                rw [hseti,hjp];simp
              · rw [getD_set_ne false (Ne.symm hx),hwp j x hj];have:j≠p:=fun e=>hx (by
                  subst e;rw [hwj] at hj;exact (Option.some.inj hj).symm)
                omega
            · by_cases hxi:x=i
              · subst hxi;rw [hseti];have:x < lm2.size:=by omega
                simp [this]
              · rw [getD_set_ne false (Ne.symm hxi),getD_set_ne false (Ne.symm hxi),← ht1 x hx,Bool.eq_iff_iff,hsg' x];constructor
                · rintro (h | ⟨b,hb,rfl⟩)
                  · exact h
                  · exact absurd rfl (hx b ((hmemL b).1 hb).1)
                · exact .inl
            · rw [getD_set_ne false (Ne.symm (hni b hb)),hsg' b.i,ht2 b hb];constructor
              · rintro (h | ⟨c,hc,hci⟩)
                · omega
                · obtain ⟨h1,h2⟩:=(hmemL c).1 hc;have:=fit.inj c h1 b hb hci;subst this;omega
              · intro h;by_cases hbp:b.j=p
                · exact .inr ⟨b,(hmemL b).2 ⟨hb,hbp⟩,rfl⟩
                · exact .inl (by omega)
            · rw [getD_set_ne false (Ne.symm (hni b hb))] at hl;have h1:=hpend b hb hl (by omega);have h2:=hpk (G b.i) b.t b.l (fun c hc=>by
                obtain ⟨q1,q2⟩:=(hmemL c).1 hc;exact hdis b hb c q1 hl (hlis c q1 q2) (by omega) (by omega) (fun e=>by
                  have:=fit.inj b hb c q1 e;subst this;omega)) h1
              exact h2.step hr2.sto ht (hdne b hb (hni b hb))
            · rw [getD_set_ne false (Ne.symm (hni b hb))] at hl1;rw [getD_set_ne false (Ne.symm (hni c hc))] at hl2;exact hdis b hb c hc hl1 hl2 (by omega) (by omega) hne
          have hwant:=gdc_wanted2 (o:=o) ⟨S,γ2,hr2⟩ hgc2;cases c with
          | true=>
            have hvo2:=vOp_congr (s:=⟨slAt sl (prs.take i),(matO (lsAt al p) (ph p)).1,(matO (lsAt al p) (ph p)).2⟩) (s':=⟨slL sl prs lm2,(matO (lsAt al p) ((ph p).1,(ph p).2)).1,(matO (lsAt al p) ((ph p).1,(ph p).2)).2⟩) (fun x hx=>by
              cases x with
              | tmp t=>
                refine hsl listed lm2 i o hcl hle2 hto ho h0f hon' t ?_;simp only [Oper.looksAt,List.mem_append,List.mem_filterMap];exact .inl ⟨.tmp t,by simpa using hx,rfl⟩
              | _=>rfl) rfl rfl (hvo rfl)
            rw [if_pos hwant];refine .inl (op_stepL hΘ hr2 hdo hvo2 ?_);rintro v' o' nk' u w' S' γ' ⟨rfl,rfl,rfl⟩ hr' ht;exact hlast u w' S' γ' (by rw [cnd_T];exact hr') ht
          | false=>
            rw [if_neg (by rw [hwant];simp)];have e:=hsame rfl;have hput:=hr2.put hdo hr2.sto (Tr.refl _ _ _ _ _) (SR.tup [] [] rfl (by simp)) (show SV.lt _ (.tup []) from trivial) (u:=undef);refine hlast undef w S γ2 (by rw [e,cnd_F];exact hput) (by rw [e];exact Tr.refl _ _ _ _ _)
  obtain ⟨S,γ,hr⟩:=hrel;obtain ⟨m1,m2⟩:=hr.sto.more (w':={ w with drawn:=w.drawn+1 }) (fun _=>False) (fun _ h=>h.elim) rfl rfl rfl (Nat.le_refl _) (fun _ _=>rfl);have hrepf:∀ i,(Array.replicate ops.size false).getD i false=false:=fun i=>by
    simp only [Array.getD_eq_getD_getElem?,Array.getElem?_replicate];split <;> rfl
  have hsl0:slL sl prs (Array.replicate ops.size false)=sl:=by
    funext u;refine slL_miss fun j v _ hl=>?_;rw [hrepf] at hl;cases hl
  have hunl:∀ m,unl (Array.replicate ops.size false) m≤m:=by
    intro m
    induction m with
    | zero=>simp [unl]
    | succ m ih=>simp only [unl];split <;> omega
  refine main ops.size (Array.replicate ops.size false) (Array.replicate ops.size false) 0 (fun _=>0) a { w with drawn:=w.drawn+1 } (fun k=>S k∨False) γ (by simp) (by simp) (hunl _) (Nat.zero_le _) (fun j i _=>?_) (fun j p _ hl=>?_) (fun _ _=>rfl) (fun b _=>?_) ?_ (fun b _ hl=>?_) (fun b _ c _ hl=>?_)
  · rw [hrepf];simp
  · rw [hrepf] at hl;cases hl
  · rw [hrepf];simp
  · rw [hsl0];exact ⟨m1,hr.tr.trans m2,fun u=>(hr.sl u).tr hr.sto m2 (hr.slt u),hr.slt,hr.df,hr.nn⟩
  · rw [hrepf] at hl;cases hl
  · rw [hrepf] at hl;cases hl
end
def nodupN:List Nat→Bool
 | []=>true
 | x :: r=>!r.contains x && nodupN r
theorem nodupN_ok:∀ {l:List Nat},nodupN l=true→l.Nodup
 | [],_=>List.nodup_nil
 | x :: r,h=>by
  simp only [nodupN,Bool.and_eq_true,Bool.not_eq_true',List.contains_eq_mem,decide_eq_false_iff_not] at h;exact List.nodup_cons.2 ⟨h.1,nodupN_ok h.2⟩
def isKw (k:Option KdP) (j:Nat):Bool:=
 match k with
 | some (.w i)=>decide (i=j)
 | _=>false
theorem isKw_ok {k:Option KdP} {j:Nat} (h:isKw k j=true):k=some (.w j):=by
 unfold isKw at h;split at h
 ·simp at h;rw [h]
 ·cases h
def isKa (k:Option KdP) (j:Nat):Bool:=
 match k with
 | some (.a i _)=>decide (i=j)
 | _=>false
theorem isKa_ok {k:Option KdP} {j:Nat} (h:isKa k j=true):∃ q,k=some (.a j q):=by
 unfold isKa at h;split at h
 ·simp at h;subst h;exact ⟨_,rfl⟩
 ·cases h
def alOp (Θ:Tab) (ops:List Oper) (b:Al):Bool:=
 match ops[b.i]? with
 | some o=>o.guard.isNone && decide (o.dst=some b.t) && (match o.op with
  | .alloc e=>match Θ e with
   | some i=>match i.z with
    | some l=>D.eqbs l b.l
    | none=>false
   | none=>false
  | _=>false)
 | none=>false
theorem alOp_ok {Θ:Tab} {ops:List Oper} {b:Al} (h:alOp Θ ops b=true):∃ o e i,ops[b.i]?=some o∧o.op=.alloc e∧o.guard=none∧o.dst=some b.t∧Θ e=some i∧i.z=some b.l:=by
 unfold alOp at h;split at h
 ·rename_i o ho;simp only [Bool.and_eq_true,Option.isNone_iff_eq_none,decide_eq_true_eq] at h;obtain ⟨⟨h1,h2⟩,h3⟩:=h;split at h3
  ·rename_i e he;split at h3
   ·rename_i i hi;split at h3
    ·rename_i l hl;have:=D.eqbs_ok _ _ h3;subst this;exact ⟨o,e,i,ho,he,h1,h2,hi,hl⟩
    ·cases h3
   ·cases h3
  ·cases h3
 ·cases h
def fitB (Θ:Tab) (ops:Array Oper) (kd:List KdP) (wr:List Nat) (al:List Al):Bool:=
 decide (kd.length=ops.size) && nodupN wr && (wr.zipIdx.all fun x=>isKw kd[x.1]? x.2) &&
 (kd.zipIdx.all fun x=>match x.1 with
  | .q lo hi=>decide (lo≤wr.length) && (wr.zipIdx.all fun y=>(!decide (y.2 < lo) || ancB ops.toList x.2 y.1) && (!decide (hi≤y.2) || ancB ops.toList y.1 x.2))
  | .w j=>decide (wr[j]?=some x.2) && wr.zipIdx.all fun y=>!decide (y.2 < j) || ancB ops.toList x.2 y.1
  | .a j k=>match (lsAt al j)[k]? with
   | some b=>decide (b.i=x.2)
   | none=>false) &&
 nodupN (al.map fun b=>b.i) &&
 (al.all fun b=>isKa kd[b.i]? b.j && alOp Θ ops.toList b && (match wr[b.j]? with
  | some x=>ancB ops.toList x b.i && (ops.toList.zipIdx.all fun y=>!(y.1.looksAt ops).contains b.t || decide (x=y.2) || ancB ops.toList y.2 x)
  | none=>false))
theorem fitB_ok {Θ:Tab} {ops:Array Oper} {kd:List KdP} {wr:List Nat} {al:List Al} (h:fitB Θ ops kd wr al=true):FitP Θ ops kd wr al:=by
 unfold fitB at h;simp only [Bool.and_eq_true,decide_eq_true_eq] at h;obtain ⟨⟨⟨⟨⟨h1,h2⟩,h3⟩,h4⟩,h5⟩,h6⟩:=h;have zi:∀ {α:Type} {l:List α} {i:Nat} {x:α},l[i]?=some x→(x,i)∈l.zipIdx:=fun hx=>by rw [List.mem_zipIdx_iff_getElem?];exact hx
 have hnd:=nodupN_ok h5;have hpw:al.Pairwise fun b c=>b.i≠c.i:=List.pairwise_map.1 hnd;have hal:∀ b∈al,isKa kd[b.i]? b.j=true∧alOp Θ ops.toList b=true∧∃ x,wr[b.j]?=some x∧ancB ops.toList x b.i=true∧∀ i o,ops[i]?=some o→b.t∈o.looksAt ops→x=i∨ancB ops.toList i x=true:=fun b hb=>by
  have:=List.all_eq_true.1 h6 b hb;simp only [Bool.and_eq_true] at this;obtain ⟨⟨k1,k2⟩,k3⟩:=this;refine ⟨k1,k2,?_⟩;split at k3
  ·rename_i x hx;simp only [Bool.and_eq_true] at k3;refine ⟨x,hx,k3.1,fun i o ho hlk=>?_⟩;have:=List.all_eq_true.1 k3.2 (o,i) (zi (by simpa using ho));simp only [Bool.or_eq_true,Bool.not_eq_true',List.contains_eq_mem,decide_eq_false_iff_not,decide_eq_true_eq] at this;rcases this with (h | h) | h
   ·exact absurd hlk h
   ·exact .inl h
   ·exact .inr h
  ·cases k3
 refine ⟨h1,nodupN_ok h2,fun j i hj=>isKw_ok (List.all_eq_true.1 h3 (i,j) (zi hj)),fun i lo hi hk=>?_,fun i j hk=>?_,fun i j k hk=>?_,fun b hb=>?_,fun b hb i o ho hlk=>?_,fun b hb=>?_,fun b hb c hc he=>?_,fun j=>hpw.sublist List.filter_sublist⟩
 ·have:=List.all_eq_true.1 h4 (.q lo hi,i) (zi hk);simp only [Bool.and_eq_true,decide_eq_true_eq] at this;refine ⟨this.1,fun j x hj=>?_⟩;have:=List.all_eq_true.1 this.2 (x,j) (zi hj);simp only [Bool.and_eq_true,Bool.or_eq_true,Bool.not_eq_true',decide_eq_false_iff_not] at this;exact ⟨fun h=>this.1.resolve_left (fun k=>k h),fun h=>this.2.resolve_left (fun k=>k h)⟩
 ·have:=List.all_eq_true.1 h4 (.w j,i) (zi hk);simp only [Bool.and_eq_true,decide_eq_true_eq] at this;refine ⟨this.1,fun j' x hj h=>?_⟩;have:=List.all_eq_true.1 this.2 (x,j') (zi hj);simp only [Bool.or_eq_true,Bool.not_eq_true',decide_eq_false_iff_not] at this;exact this.resolve_left (fun k=>k h)
 ·have:=List.all_eq_true.1 h4 (.a j k,i) (zi hk);simp only at this;split at this
  ·rename_i b hb;have hm:=List.mem_of_getElem? hb;simp only [lsAt,List.mem_filter,decide_eq_true_eq] at hm;exact ⟨b,hm.1,by simpa using this,hm.2,hb⟩
  ·cases this
 ·obtain ⟨k1,k2,x,k3,k4,_⟩:=hal b hb;exact ⟨isKa_ok k1,x,k3,k4⟩
 ·obtain ⟨_,_,x,k3,_,k5⟩:=hal b hb;rcases k5 i o ho hlk with h | h
  ·left;rw [k3,h]
  ·exact .inr ⟨x,k3,h⟩
 ·obtain ⟨_,k2,_⟩:=hal b hb;obtain ⟨o,e,i,q1,q2⟩:=alOp_ok k2;exact ⟨o,e,i,by simpa using q1,q2⟩
 ·obtain ⟨p,hp⟩:=List.getElem?_of_mem hb;obtain ⟨q,hq⟩:=List.getElem?_of_mem hc;obtain ⟨p1,p2⟩:=List.getElem?_eq_some_iff.1 hp;obtain ⟨q1,q2⟩:=List.getElem?_eq_some_iff.1 hq;rcases Nat.lt_trichotomy p q with hlt | heq | hgt
  ·exact absurd (by rw [p2,q2];exact he) ((List.pairwise_iff_getElem.1 hpw) p q p1 q1 hlt)
  ·subst heq;rw [← p2,← q2]
  ·exact absurd (by rw [p2,q2];exact he.symm) ((List.pairwise_iff_getElem.1 hpw) q p q1 p1 hgt)
def matX:List Al→XS→XS
 | [],s=>s
 | b :: r,s=>matX r ⟨s.sl.set b.t (some (.loc s.nk 0)),s.o.set s.nk (some (.box (b.l.map .d))),s.nk+1⟩
theorem matX_st:∀ (r:List Al) (s:XS),(matX r s).st=⟨matS r s.st.sl s.nk,(matO r (s.o.get,s.nk)).1,(matO r (s.o.get,s.nk)).2⟩
 | [],s=>rfl
 | b :: r,s=>by
  rw [matX,matX_st r];have e:(XS.st ⟨s.sl.set b.t (some (.loc s.nk 0)),s.o.set s.nk (some (.box (b.l.map .d))),s.nk+1⟩).sl=upd s.st.sl b.t (.loc s.nk 0):=by
   have:=put_st s (some b.t) (.loc s.nk 0) (s.o.set s.nk (some (.box (b.l.map .d)))) (s.nk+1);simp only [putD] at this;rw [this];rfl
  rw [e];simp only [matS,matO,TM.get_set]
theorem matO_matX (r:List Al) (s:XS):matO r (s.o.get,s.nk)=((matX r s).o.get,(matX r s).nk):=by
 have:=matX_st r s;simp only [XS.st,St.mk.injEq] at this;exact Prod.ext this.2.1.symm this.2.2.symm
theorem matS_hit {F:Nat→SV}:∀ (r:List Al) (sl:Nat→SV) (nk:Nat),(∀ (pos:Nat) (b:Al),r[pos]?=some b→F b.t=.loc (nk+pos) 0)→∀ u,matS r sl nk u=F u∨(matS r sl nk u=sl u∧∀ b∈r,b.t≠u)
 | [],sl,nk,_,u=>.inr ⟨rfl,by simp⟩
 | b :: r,sl,nk,h,u=>by
  rw [matS];have h0:=h 0 b rfl;rcases matS_hit (F:=F) r (upd sl b.t (.loc nk 0)) (nk+1) (fun pos c hc=>by rw [h (pos+1) c (by simpa using hc)];congr 1;omega) u with h1 | ⟨h1,h2⟩
  ·exact .inl h1
  ·by_cases hu:u=b.t
   ·subst hu;left;rw [h1,upd_same,h0];rfl
   ·right;refine ⟨by rw [h1,upd_ne _ _ hu],fun c hc=>?_⟩;rcases List.mem_cons.1 hc with rfl | hc
    ·exact Ne.symm hu
    ·exact h2 c hc
section
variable (Θ:Tab) (call:Nat→List SV→TM AO→Nat→Option XR)
def xDrP (ops:Array Oper) (al:List Al):List Oper→List KdP→XS→Option (List SV×List (TM AO×Nat)×TM SV)
 | [],[],s=>some ([],[],s.sl)
 | op :: r,.w j :: ks,s=>match matX (lsAt al j) s with
  | s1=>match xG Θ call ops op s1 with
   | none=>none
   | some (v,o',nk')=>match xDrP ops al r ks ⟨putD s1.sl op.dst v,o',nk'⟩ with
    | none=>none
    | some (vs,phs,sl)=>some (v :: vs,(o',nk') :: phs,sl)
 | op :: r,.q _ _ :: ks,s=>match xG Θ call ops op s with
  | none=>none
  | some (v,_,_)=>match xDrP ops al r ks ⟨putD s.sl op.dst v,s.o,s.nk⟩ with
   | none=>none
   | some (vs,phs,sl)=>some (v :: vs,phs,sl)
 | op :: r,.a _ _ :: ks,s=>match xDrP ops al r ks s with
  | none=>none
  | some (vs,phs,sl)=>some (.any :: vs,phs,sl)
 | _,_,_=>none
def patchV (L:List (TM AO×Nat)):List KdP→List SV→List SV
 | .a j k :: ks,_ :: vs=>(match L[j]? with
  | some (_,nk)=>.loc (nk+k) 0
  | none=>.any) :: patchV L ks vs
 | .q _ _ :: ks,v :: vs=>v :: patchV L ks vs
 | .w _ :: ks,v :: vs=>v :: patchV L ks vs
 | _,_=>[]
def xChkP (ops:Array Oper) (al:List Al) (L:List (TM AO×Nat)):List Oper→List KdP→List SV→TM SV→Nat→Bool
 | [],[],[],_,_=>true
 | op :: r,.w j :: ks,v :: vs,sl,p=>decide (j=p) && (match L[j]? with
  | none=>false
  | some (o,nk)=>xChkP ops al L r ks vs (putD (matX (lsAt al j) ⟨sl,o,nk⟩).sl op.dst v) (p+1))
 | op :: r,.q lo hi :: ks,v :: vs,sl,p=>isQ op.op && (allX (hi - lo) (fun q=>match L[q]? with
  | none=>false
  | some (o,nk)=>match xG Θ call ops op ⟨sl,o,nk⟩ with
   | none=>false
   | some (v2,_,nk2)=>SV.eqb v v2 && decide (nk2=nk)) lo) && xChkP ops al L r ks vs (putD sl op.dst v) p
 | op :: r,.a _ _ :: ks,v :: vs,sl,p=>xChkP ops al L r ks vs sl p
 | _,_,_,_,_=>false
end
theorem patch_len {L:List (TM AO×Nat)}:∀ (ks:List KdP) (vs:List SV),ks.length=vs.length→(patchV L ks vs).length=ks.length
 | [],[],_=>rfl
 | k :: ks,[],h=>by simp at h
 | [],v :: vs,h=>by simp at h
 | k :: ks,v :: vs,h=>by
  have:=patch_len (L:=L) ks vs (by simpa using h);cases k <;> simp [patchV,this]
theorem patch_a {L:List (TM AO×Nat)}:∀ (ks:List KdP) (vs:List SV) (i j k:Nat) (v:SV),ks[i]?=some (.a j k)→(patchV L ks vs)[i]?=some v→v=match L[j]? with
    | some (_,nk)=>.loc (nk+k) 0
    | none=>.any
  | [],vs,i,j,k,v,h,_=>by simp at h
  | q :: ks,[],i,j,k,v,_,h=>by cases q <;> simp [patchV] at h
  | q :: ks,x :: vs,0,j,k,v,h1,h2=>by
    simp only [List.getElem?_cons_zero,Option.some.injEq] at h1;subst h1;simp only [patchV,List.getElem?_cons_zero,Option.some.injEq] at h2;exact h2.symm
  | q :: ks,x :: vs,i+1,j,k,v,h1,h2=>by
    refine patch_a ks vs i j k v (by simpa using h1) ?_;cases q <;> simpa [patchV] using h2
theorem xDrP_len {Θ:Tab} {call:Nat→List SV→TM AO→Nat→Option XR} {ops:Array Oper} {al:List Al}:∀ (l:List Oper) (ks:List KdP) (s:XS) (vs:List SV) (phs:List (TM AO×Nat)) (fsl:TM SV),xDrP Θ call ops al l ks s=some (vs,phs,fsl)→vs.length=l.length∧ks.length=vs.length
 | [],[],s,vs,phs,fsl,h=>by simp only [xDrP,Option.some.injEq,Prod.mk.injEq] at h;obtain ⟨rfl,_,_⟩:=h;exact ⟨rfl,rfl⟩
 | [],k :: ks,s,vs,phs,fsl,h=>by simp [xDrP] at h
 | op :: r,[],s,vs,phs,fsl,h=>by simp [xDrP] at h
 | op :: r,.w j :: ks,s,vs,phs,fsl,h=>by
  simp only [xDrP] at h;split at h
  ·cases h
  ·split at h
   ·cases h
   ·rename_i hx;simp only [Option.some.injEq,Prod.mk.injEq] at h;obtain ⟨rfl,_,_⟩:=h;have:=xDrP_len r ks _ _ _ _ hx;simp [this.1,this.2]
 | op :: r,.q lo hi :: ks,s,vs,phs,fsl,h=>by
  simp only [xDrP] at h;split at h
  ·cases h
  ·split at h
   ·cases h
   ·rename_i hx;simp only [Option.some.injEq,Prod.mk.injEq] at h;obtain ⟨rfl,_,_⟩:=h;have:=xDrP_len r ks _ _ _ _ hx;simp [this.1,this.2]
 | op :: r,.a j k :: ks,s,vs,phs,fsl,h=>by
  simp only [xDrP] at h;split at h
  ·cases h
  ·rename_i hx;simp only [Option.some.injEq,Prod.mk.injEq] at h;obtain ⟨rfl,_,_⟩:=h;have:=xDrP_len r ks _ _ _ _ hx;simp [this.1,this.2]
theorem slAt_snoc {sl:Nat→SV} {d:Option Nat} {v:SV}:∀ (q:List (Option Nat×SV)) (sl:Nat→SV),slAt sl (q++[(d,v)])=pt (slAt sl q) d v
 | [],sl=>rfl
 | p :: q,sl=>by
  rw [List.cons_append,slAt,slAt];exact slAt_snoc (sl:=sl) q _
theorem drop_cons {α:Type} {l r:List α} {x:α} {i:Nat} (h:x :: r=l.drop i):l[i]?=some x∧r=l.drop (i+1):=by
 have h1:(l.drop i)[0]?=some x:=by rw [← h];rfl
 refine ⟨by simpa using h1,?_⟩;rw [← List.drop_drop,← h];rfl
section
variable {Θ:Tab} {call:Nat→List SV→TM AO→Nat→Option XR}
theorem xDrP_ok {P:Program} (hc:CallOk P call) {ops:Array Oper} {kd:List KdP} {wr:List Nat} {al:List Al} (fit:FitP Θ ops kd wr al) (hflow:flowOk ops=true) {L:List (TM AO×Nat)} {vsF:List SV} {sl0:Nat→SV} (hvl:vsF.length=ops.size) (hLl:wr.length < L.length)
    (hal:∀ (i j k:Nat) (v:SV),kd[i]?=some (.a j k)→vsF[i]?=some v→v=match L[j]? with
      | some (_,nk)=>.loc (nk+k) 0
      | none=>.any) {fsl:TM SV} :
    ∀ (l:List Oper) (ks:List KdP) (s:XS) (vs:List SV) (phs pre:List (TM AO×Nat)) (i p:Nat),l=ops.toList.drop i→ks=kd.drop i→xDrP Θ call ops al l ks s=some (vs,phs,fsl)→pre.length=p→L=pre++(s.o,s.nk) :: phs→
      xChkP Θ call ops al L l ks vs s.sl p=true→vsF.drop i=patchV L ks vs→
      (∀ u,s.st.sl u=slAt sl0 (((ops.toList.map (·.dst)).zip vsF).take i) u∨∃ b∈al,b.t=u∧b.i < i∧∀ x,wr[b.j]?=some x→i≤x)→
      (∀ (m:Nat) (o:Oper) (v:SV) (k:KdP),i≤m→ops[m]?=some o→vsF[m]?=some v→kd[m]?=some k→eOpP P Θ ops (phx L) al o (slAt sl0 (((ops.toList.map (·.dst)).zip vsF).take m)) v k)∧
      ∀ u,(fsl.get u).getD .any=slAt sl0 ((ops.toList.map (·.dst)).zip vsF) u:=by
  have hwlt:∀ j x,wr[j]?=some x→x < ops.size:=fun j x hj=>by
    have:=(List.getElem?_eq_some_iff.1 (fit.wk j x hj)).1;rw [fit.kl] at this;exact this
  have hon:∀ (i:Nat) (o:Oper),ops.toList[i]?=some o→∀ k∈onsOf o,k < i:=fun i o ho=>(flow_spec hflow (by simpa using ho)).1;have hancL:∀ (n i k:Nat),k∈(ancs ops.toList n).getD i []→k < i:=by
    intro n
    induction n with
    | zero=>intro i k hk;simp [ancs] at hk
    | succ n ih=>
      intro i k hk;by_cases hi:i < n
      · rw [ancs,List.getD_eq_getElem?_getD,List.getElem?_append_left (by rw [ancs_length];exact hi),← List.getD_eq_getElem?_getD] at hk;exact ih i k hk
      · by_cases he:i=n
        · subst he;rw [ancs,List.getD_eq_getElem?_getD,List.getElem?_append_right (by rw [ancs_length];exact Nat.le_refl _),ancs_length,Nat.sub_self] at hk;cases ho:ops.toList[i]? with
          | none=>rw [ho] at hk;simp at hk
          | some o=>
            rw [ho] at hk;simp only [List.getElem?_cons_zero,Option.getD_some,List.mem_eraseDups,List.mem_append,List.mem_flatMap] at hk;rcases hk with hk | ⟨j,hj,hk⟩
            · exact hon i o ho k hk
            · have:=hon i o ho j hj;have:=ih j k hk;omega
        · rw [List.getD_eq_getElem?_getD,List.getElem?_eq_none (by rw [ancs_length];omega)] at hk;simp at hk
  have hanc:∀ i k,ancB ops.toList i k=true→k < i:=fun i k h=>hancL _ i k (by simpa [ancB] using h);have hprs:∀ (i:Nat) (o:Oper) (v:SV),ops[i]?=some o→vsF[i]?=some v→((ops.toList.map (·.dst)).zip vsF)[i]?=some (o.dst,v):=fun i o v ho hv=>by
    rw [List.getElem?_zip_eq_some];refine ⟨?_,hv⟩;rw [List.getElem?_map];have:ops.toList[i]?=some o:=by simpa using ho
    rw [this];rfl
  have hback:∀ (j:Nat) (d:Option Nat) (v:SV),((ops.toList.map (·.dst)).zip vsF)[j]?=some (d,v)→∃ o,ops[j]?=some o∧o.dst=d∧vsF[j]?=some v:=fun j d v hj=>by
    rw [List.getElem?_zip_eq_some,List.getElem?_map] at hj;obtain ⟨h1,h2⟩:=hj;obtain ⟨o,ho,rfl⟩:=Option.map_eq_some_iff.1 h1;exact ⟨o,by simpa using ho,rfl,h2⟩
  have huniq:Uniq ((ops.toList.map (·.dst)).zip vsF):=fun i j u v x hi hj=>by
    obtain ⟨o,ho,hod,_⟩:=hback i _ v hi;obtain ⟨p,hp,hpd,_⟩:=hback j _ x hj;have:=(flow_spec hflow ho).2 j p hp;simp only [flowAt,hpd,Bool.and_eq_true,Bool.or_eq_true,beq_iff_eq] at this;rcases this.1 with h1 | h1
    · exact h1
    · simp [hod] at h1
  have hsnoc:∀ (i:Nat) (o:Oper) (v:SV),ops[i]?=some o→vsF[i]?=some v→slAt sl0 (((ops.toList.map (·.dst)).zip vsF).take (i+1))=pt (slAt sl0 (((ops.toList.map (·.dst)).zip vsF).take i)) o.dst v:=fun i o v ho hv=>by
    rw [List.take_add_one,hprs i o v ho hv];exact slAt_snoc (sl:=sl0) _ _
  have hpt:∀ (f g:Nat→SV) (d:Option Nat) (v:SV) (u:Nat),f u=g u→pt f d v u=pt g d v u:=fun f g d v u h=>by
    cases d with
    | none=>exact h
    | some d=>simp only [pt,upd,h]
  have hptd:∀ (f g:Nat→SV) (d:Option Nat) (v:SV) (u:Nat),d=some u→pt f d v u=pt g d v u:=fun f g d v u h=>by
    subst h;simp [pt,upd_same]
  have hptn:∀ (f:Nat→SV) (d:Option Nat) (v:SV) (u:Nat),d≠some u→pt f d v u=f u:=fun f d v u h=>by
    cases d with
    | none=>rfl
    | some d=>exact upd_ne _ _ fun e=>h (by rw [e])
  have hlook:∀ (i:Nat) (o:Oper) (b:Al),ops[i]?=some o→b∈al→b.t∈o.looksAt ops→(∀ x,wr[b.j]?=some x→i≤x)→wr[b.j]?=some i:=fun i o b ho hb hlk hx=>by
    rcases fit.us b hb i o ho hlk with h | ⟨x,h1,h2⟩
    · exact h
    · have:=hx x h1;have:=hanc _ _ h2;omega
  intro l
  induction l with
  | nil=>
    intro ks s vs phs pre i p hl hks h hp hL hk hvs hinv;cases ks with
    | cons k ks=>simp [xDrP] at h
    | nil=>
      simp only [xDrP,Option.some.injEq,Prod.mk.injEq] at h;obtain ⟨rfl,rfl,rfl⟩:=h;have hi:ops.size≤i:=by
        have:=congrArg List.length hl;simp at this;omega
      refine ⟨fun m o v k hm ho=>?_,fun u=>?_⟩
      · have:=(Array.getElem?_eq_some_iff.1 ho).1;omega
      · have e:((ops.toList.map (·.dst)).zip vsF).take i=(ops.toList.map (·.dst)).zip vsF:=List.take_of_length_le (by simp [hvl];omega);rcases hinv u with h | ⟨b,hb,rfl,h1,h2⟩
        · rw [← e];exact h
        · obtain ⟨_,x,hx,_⟩:=fit.aA b hb;have:=h2 x hx;have:=hwlt _ _ hx;omega
  | cons op r ihl=>
    intro ks s vs phs pre i p hl hks h hp hL hk hvs hinv;obtain ⟨hop,hr⟩:=drop_cons hl;have hop:ops[i]?=some op:=by simpa using hop
    have hilt:i < ops.size:=(Array.getElem?_eq_some_iff.1 hop).1;obtain ⟨v',hv'⟩:∃ v',vsF[i]?=some v':=⟨_,List.getElem?_eq_getElem (by omega)⟩;have hsn:=hsnoc i op v' hop hv';cases ks with
    | nil=>simp [xDrP] at h
    | cons k ks=>
      obtain ⟨hki,hks2⟩:=drop_cons hks;have fin:∀ (Z:Prop),(∀ (m:Nat) (o:Oper) (v:SV) (k:KdP),i+1≤m→ops[m]?=some o→vsF[m]?=some v→kd[m]?=some k→eOpP P Θ ops (phx L) al o (slAt sl0 (((ops.toList.map (·.dst)).zip vsF).take m)) v k)∧Z→
          eOpP P Θ ops (phx L) al op (slAt sl0 (((ops.toList.map (·.dst)).zip vsF).take i)) v' k→
          (∀ (m:Nat) (o:Oper) (v:SV) (k:KdP),i≤m→ops[m]?=some o→vsF[m]?=some v→kd[m]?=some k→eOpP P Θ ops (phx L) al o (slAt sl0 (((ops.toList.map (·.dst)).zip vsF).take m)) v k)∧Z:=by
        rintro Z ⟨h1,h2⟩ h3;refine ⟨fun m o v q hm ho hv hq=>?_,h2⟩;by_cases hmi:m=i
        · subst hmi;rw [hop] at ho;rw [hv'] at hv;rw [hki] at hq;simp only [Option.some.injEq] at ho hv hq;subst ho;subst hv;subst hq;exact h3
        · exact h1 m o v q (by omega) ho hv hq
      cases k with
      | a j k=>
        simp only [xDrP] at h;split at h
        · cases h
        · rename_i vs1 phs1 sl1 hx;simp only [Option.some.injEq,Prod.mk.injEq] at h;obtain ⟨rfl,rfl,rfl⟩:=h;simp only [xChkP] at hk;rw [patchV] at hvs;obtain ⟨_,hvs2⟩:=drop_cons hvs.symm;obtain ⟨b,hb,hbi,hbj,hbk⟩:=fit.a i j k hki;obtain ⟨o2,e2,i2,q1,q2,q3,q4,q5⟩:=fit.op b hb;rw [hbi,hop] at q1;simp only [Option.some.injEq] at q1;subst q1;refine fin _ (ihl ks s vs1 phs1 pre (i+1) p hr hks2 hx hp hL hk hvs2.symm fun u=>?_) ?_
          · by_cases hu:u=b.t
            · subst hu;obtain ⟨_,x,hx,hxa⟩:=fit.aA b hb;refine .inr ⟨b,hb,rfl,by omega,fun y hy=>?_⟩;rw [hx] at hy;simp only [Option.some.injEq] at hy;subst hy;have:=hanc _ _ hxa;omega
            · rw [hsn,hptn _ _ _ _ (by rw [q4];simpa using Ne.symm hu)];rcases hinv u with h | ⟨c,hc,h1,h2,h3⟩
              · exact .inl h
              · refine .inr ⟨c,hc,h1,by omega,fun x hx=>?_⟩;have:=h3 x hx;have hne:x≠i:=fun e=>by
                  have:=fit.wk _ _ hx;rw [e,hki] at this;cases this
                omega
          · show v'=_;rw [hal i j k v' hki hv'];simp only [phx];obtain ⟨_,x,hx2,_⟩:=fit.aA b hb;have:j < L.length:=by
              have:=(List.getElem?_eq_some_iff.1 hx2).1;omega
            rw [List.getElem?_eq_getElem this]
      | q lo hi=>
        simp only [xDrP] at h;split at h
        · cases h
        · rename_i v o' nk' hx;split at h
          · cases h
          · rename_i vs1 phs1 sl1 hx1;simp only [Option.some.injEq,Prod.mk.injEq] at h;obtain ⟨rfl,rfl,rfl⟩:=h;simp only [xChkP,Bool.and_eq_true] at hk;obtain ⟨⟨hq,hall⟩,hk⟩:=hk;rw [patchV] at hvs;obtain ⟨hv2,hvs2⟩:=drop_cons hvs.symm;rw [hv'] at hv2;simp only [Option.some.injEq] at hv2;subst hv2;have hnw:∀ j,wr[j]?≠some i:=fun j hj=>by
              have:=fit.wk _ _ hj;rw [hki] at this;cases this
            refine fin _ (ihl ks ⟨putD s.sl op.dst v',s.o,s.nk⟩ vs1 phs1 pre (i+1) p hr hks2 hx1 hp hL hk hvs2.symm fun u=>?_) ?_
            · rw [put_st];show pt s.st.sl op.dst v' u=_∨_;rw [hsn];by_cases hd:op.dst=some u
              · exact .inl (hptd _ _ _ _ _ hd)
              · rcases hinv u with h | ⟨c,hc,h1,h2,h3⟩
                · exact .inl (hpt _ _ _ _ _ h)
                · refine .inr ⟨c,hc,h1,by omega,fun x hx=>?_⟩;have:=h3 x hx;have hne:x≠i:=fun e=>hnw _ (e ▸ hx);omega
            · simp only [eOpP];refine allX_ok (fun q hqq=>?_) _ _ hall;split at hqq
              · cases hqq
              · rename_i o2 nk2 hLq;split at hqq
                · cases hqq
                · rename_i v2 o3 nk3 hg;simp only [Bool.and_eq_true,decide_eq_true_eq] at hqq;have hv:=SV.eqb_ok hqq.1;subst hv;have:=xG_q (P:=P) hc hq hg hqq.2;simp only [phx,hLq];refine gOp_congr (s:=⟨s.st.sl,o2.get,nk2⟩) (fun u hu=>?_) rfl rfl this;rcases hinv u with h | ⟨c,hc,h1,h2,h3⟩
                  · exact h
                  · subst h1;exact absurd (hlook i op c hop hc hu h3) (hnw _)
      | w j=>
        simp only [xDrP] at h;obtain ⟨hwj,hky⟩:=fit.w i j hki;split at h
        · cases h
        · rename_i v o' nk' hx;split at h
          · cases h
          · rename_i vs1 phs1 sl1 hx1;simp only [Option.some.injEq,Prod.mk.injEq] at h;obtain ⟨rfl,rfl,rfl⟩:=h;simp only [xChkP,Bool.and_eq_true,decide_eq_true_eq] at hk;obtain ⟨rfl,hk⟩:=hk;have hLp:L[j]?=some (s.o,s.nk):=by rw [hL,List.getElem?_append_right (by omega),hp];simp
            have hLp1:L[j+1]?=some (o',nk'):=by rw [hL,List.getElem?_append_right (by omega),hp];simp
            rw [hLp] at hk;simp only at hk;rw [patchV] at hvs;obtain ⟨hv2,hvs2⟩:=drop_cons hvs.symm;rw [hv'] at hv2;simp only [Option.some.injEq] at hv2;subst hv2;have hF:∀ (pos:Nat) (b:Al),(lsAt al j)[pos]?=some b→slAt sl0 (((ops.toList.map (·.dst)).zip vsF).take i) b.t=.loc (s.nk+pos) 0:=fun pos b hb=>by
              have hm:=List.mem_of_getElem? hb;simp only [lsAt,List.mem_filter,decide_eq_true_eq] at hm;obtain ⟨hbm,hbj⟩:=hm;obtain ⟨o2,e2,i2,q1,_,_,q4,_⟩:=fit.op b hbm;obtain ⟨⟨k,hk⟩,x,hx,hxa⟩:=fit.aA b hbm;obtain ⟨c,hc,hci,hcj,hck⟩:=fit.a _ _ _ hk;obtain rfl:=fit.inj c hc b hbm hci;have hkp:k=pos:=by
                rw [hbj] at hck;obtain ⟨q1,q2⟩:=List.getElem?_eq_some_iff.1 hck;obtain ⟨q3,q4⟩:=List.getElem?_eq_some_iff.1 hb;rcases Nat.lt_trichotomy k pos with hlt | heq | hgt
                · exact absurd (by rw [q2,q4]) ((List.pairwise_iff_getElem.1 (fit.ndL j)) k pos q1 q3 hlt)
                · exact heq
                · exact absurd (by rw [q2,q4]) ((List.pairwise_iff_getElem.1 (fit.ndL j)) pos k q3 q1 hgt)
              rw [hbj,hwj] at hx;simp only [Option.some.injEq] at hx;subst hx;have hlt:=hanc _ _ hxa;have hvb:vsF[c.i]?=some (vsF[c.i]'(by omega)):=List.getElem?_eq_getElem _;have hval:=hal c.i c.j k _ hk hvb;rw [hbj,hLp] at hval;simp only at hval;have hpr:=hprs c.i o2 _ q1 hvb;rw [hval,q4,hkp] at hpr;refine slAt_hit _ _ c.i (by rw [List.getElem?_take,if_pos hlt];exact hpr) fun m y hm=>?_;rw [List.getElem?_take] at hm;split at hm
              · exact huniq m c.i c.t y _ hm hpr
              · cases hm
            have hinv1:∀ u,(matX (lsAt al j) s).st.sl u=slAt sl0 (((ops.toList.map (·.dst)).zip vsF).take i) u∨∃ b∈al,b.t=u∧b.j≠j∧b.i < i∧∀ x,wr[b.j]?=some x→i≤x:=fun u=>by
              rw [matX_st];rcases matS_hit (F:=slAt sl0 (((ops.toList.map (·.dst)).zip vsF).take i)) (lsAt al j) s.st.sl s.nk hF u with h | ⟨h1,h2⟩
              · exact .inl h
              · rcases hinv u with h | ⟨c,hc,q1,q2,q3⟩
                · exact .inl (h1.trans h)
                · refine .inr ⟨c,hc,q1,fun e=>?_,q2,q3⟩;exact h2 c (by simp [lsAt,hc,e]) q1
            refine fin _ (ihl ks ⟨putD (matX (lsAt al j) s).sl op.dst v',o',nk'⟩ vs1 phs1 (pre++[(s.o,s.nk)]) (i+1) (j+1) hr hks2 hx1 (by simp [hp]) (by rw [hL];simp) hk hvs2.symm fun u=>?_) ?_
            · rw [put_st];show pt (matX (lsAt al j) s).st.sl op.dst v' u=_∨_;rw [hsn];by_cases hd:op.dst=some u
              · exact .inl (hptd _ _ _ _ _ hd)
              · rcases hinv1 u with h | ⟨c,hc,h1,hne,h2,h3⟩
                · exact .inl (hpt _ _ _ _ _ h)
                · refine .inr ⟨c,hc,h1,by omega,fun x hx=>?_⟩;have:=h3 x hx;have hne:x≠i:=fun e=>by
                    have h4:=fit.wk _ _ hx;rw [e,hki] at h4;simp only [Option.some.injEq,KdP.w.injEq] at h4;exact hne h4.symm
                  omega
            · have hm1:matO (lsAt al j) (s.o.get,s.nk)=((matX (lsAt al j) s).o.get,(matX (lsAt al j) s).nk):=matO_matX _ _;simp only [eOpP,phx,hLp,hLp1,hm1];have hsl:∀ u∈op.looksAt ops,(matX (lsAt al j) s).st.sl u=slAt sl0 (((ops.toList.map (·.dst)).zip vsF).take i) u:=fun u hu=>by
                rcases hinv1 u with h | ⟨c,hc,h1,hne,h2,h3⟩
                · exact h
                · subst h1;have:=hlook i op c hop hc hu h3;have h4:=fit.wk _ _ this;rw [hki] at h4;simp only [Option.some.injEq,KdP.w.injEq] at h4;exact absurd h4.symm hne
              have hgd:∀ c,gdc ops (matX (lsAt al j) s).st op.guard c→gdc ops ⟨slAt sl0 (((ops.toList.map (·.dst)).zip vsF).take i),(matX (lsAt al j) s).o.get,(matX (lsAt al j) s).nk⟩ op.guard c:=fun c hgc=>by
                unfold gdc at hgc ⊢;split at hgc
                · exact hgc
                · rename_i q want hg;have hgs:gsl ops (matX (lsAt al j) s).st q=gsl ops ⟨slAt sl0 (((ops.toList.map (·.dst)).zip vsF).take i),(matX (lsAt al j) s).o.get,(matX (lsAt al j) s).nk⟩ q:=by
                    unfold gsl;split
                    · rename_i d hd;refine hsl d ?_;simp only [Oper.looksAt,List.mem_append,List.mem_filterMap];right;rw [hg];simp [hd]
                    · rfl
                  rw [← hgs];exact hgc
              unfold xG at hx;split at hx
              · cases hx
              · rename_i hg;simp only [Option.some.injEq,Prod.mk.injEq] at hx;obtain ⟨rfl,rfl,rfl⟩:=hx;exact ⟨false,.any,hgd _ (xGuard_ok hg),fun e=>(by cases e),fun _=>rfl,(cnd_F _).symm⟩
              · rename_i hg;refine ⟨true,v',hgd _ (xGuard_ok hg),fun _=>?_,fun e=>(by cases e),(cnd_T v').symm⟩;refine vOp_congr (s:=(matX (lsAt al j) s).st) (fun x hx'=>?_) rfl rfl (xOp_ok hc hx (K:=fun v'' o'' nk''=>v''=v'∧o''=o'.get∧nk''=nk') ⟨rfl,rfl,rfl⟩);cases x with
                | tmp t=>
                  refine hsl t ?_;simp only [Oper.looksAt,List.mem_append,List.mem_filterMap];exact .inl ⟨.tmp t,by simpa using hx',rfl⟩
                | _=>rfl
end
def ordB (an:List (List Nat)) (i k:Nat):Bool:=(an.getD i []).contains k || (an.getD k []).contains i
def isPA (op:Oper):Bool:=
 match op.op with
 | .alloc _=>op.guard.isNone && op.dst.isSome
 | _=>false
def pendL (ops:List Oper) (an:List (List Nat)) (ws:List Nat):List Nat:=ws.filter fun i=>(match ops[i]? with
 | some o=>isPA o
 | none=>false) && !(ws.all fun k=>Nat.beq i k || ordB an i k)
def mkAl (Θ:Tab) (ops:List Oper) (an:List (List Nat)) (wr:List Nat):List Nat→List Al
 | []=>[]
 | i :: r=>match ops[i]? with
  | some o=>match o.op,o.dst with
   | .alloc e,some t=>match Θ e with
    | some ti=>match ti.z with
     | some l=>⟨i,t,takeN (fun x=>!(an.getD x []).contains i) wr,l⟩ :: mkAl Θ ops an wr r
     | none=>[]
    | none=>[]
   | _,_=>[]
  | none=>[]
def plA (i:Nat):List Al→List Al→Option (Nat×Nat)
 | _,[]=>none
 | seen,b :: r=>bif Nat.beq b.i i then some (b.j,(seen.filter fun c=>Nat.beq c.j b.j).length) else plA i (seen++[b]) r
def kdP (an:List (List Nat)) (wr:List Nat) (al:List Al):List Oper→Nat→Nat→List KdP
 | [],_,_=>[]
 | op :: r,i,j=>match plA i [] al with
  | some (a,k)=>.a a k :: kdP an wr al r (i+1) j
  | none=>bif isW op.op then .w j :: kdP an wr al r (i+1) (j+1)
   else .q (takeN (fun w=>(an.getD i []).contains w) wr) (takeN (fun w=>!(an.getD w []).contains i) wr) :: kdP an wr al r (i+1) j
def clrA:List Al→TM SV→TM SV
 | [],sl=>sl
 | b :: r,sl=>clrA r (sl.set b.t none)
theorem clrA_get:∀ (al:List Al) (sl:TM SV) (u:Nat),(clrA al sl).get u=sl.get u∨(clrA al sl).get u=none
 | [],sl,u=>.inl rfl
 | b :: r,sl,u=>by
  rw [clrA];rcases clrA_get r (sl.set b.t none) u with h | h
  ·rw [h,TM.get_set];unfold upd;split
   ·exact .inr rfl
   ·exact .inl rfl
  ·exact .inr h
theorem clrA_al:∀ (al:List Al) (sl:TM SV),∀ b∈al,(clrA al sl).get b.t=none
 | [],sl,b,h=>by simp at h
 | b :: r,sl,c,h=>by
  rw [clrA];rcases List.mem_cons.1 h with rfl | h
  ·rcases clrA_get r (sl.set c.t none) c.t with h | h
   ·rw [h,TM.get_set,upd_same]
   ·exact h
  ·exact clrA_al r _ c h
section
variable (Θ:Tab) (call:Nat→List SV→TM AO→Nat→Option XR)
def xDrawP1 (ops:Array Oper) (kd:List KdP) (wr:List Nat) (al:List Al) (s:XS):Option XS:=
  bif flowOk ops && fitB Θ ops kd wr al then match clrA al s.sl with
    | sl0=>match xDrP Θ call ops al ops.toList kd ⟨sl0,s.o,s.nk⟩ with
      | none=>none
      | some (vs,phs,sl)=>match (s.o,s.nk) :: phs with
        | L=>bif xChkP Θ call ops al L ops.toList kd vs sl0 0 then match L[wr.length]? with
            | none=>none
            | some (o,nk)=>bif Nat.beq wr.length phs.length then some ⟨sl,o,nk⟩ else none
          else none
  else none
def xDrawP (ops:Array Oper) (s:XS):Option XS:=
 match ops.toList with
 | l=>match ancs l l.length with
  | an=>match wrGo l 0 with
   | ws=>match pendL l an ws with
    | pn=>match ws.filter fun i=>!pn.contains i with
     | wr=>match mkAl Θ l an wr pn with
      | al=>xDrawP1 Θ call ops (kdP an wr al l 0 0) wr al s
theorem xDrawP1_ok {P:Program} {n k0:Nat} {Q:Exit→St→Prop} (hΘ:TabOk P Θ) (hm:P.follows .mixedOrders=true) (hc:CallOk P call) {id:Nat} {ops:Array Oper} {kd:List KdP} {wr:List Nat} {al:List Al} {s s':XS} (hd:(ops.toList.all fun o=>dstOk n o.dst)=true) (h:xDrawP1 Θ call ops kd wr al s=some s') (hQ:Q .normal s'.st) :
    WP P n k0 (.region id ops true) s.st Q:=by
  unfold xDrawP1 at h;cases hb:flowOk ops && fitB Θ ops kd wr al with
  | false=>rw [hb] at h;cases h
  | true=>
    rw [hb] at h;simp only [cond_true] at h;simp only [Bool.and_eq_true] at hb;have fit:=fitB_ok hb.2;split at h
    · cases h
    · rename_i vs phs sl hx;cases hk:xChkP Θ call ops al ((s.o,s.nk) :: phs) ops.toList kd vs (clrA al s.sl) 0 with
      | false=>rw [hk] at h;cases h
      | true=>
        rw [hk] at h;simp only [cond_true] at h;split at h
        · cases h
        · rename_i o nk hL;cases he:Nat.beq wr.length phs.length with
          | false=>rw [he] at h;cases h
          | true=>
            rw [he] at h;simp only [cond_true,Option.some.injEq] at h;subst h;have hlen:=Nat.eq_of_beq_eq_true he;obtain ⟨l1,l2⟩:=xDrP_len _ _ _ _ _ _ hx;have hpl:(patchV ((s.o,s.nk) :: phs) kd vs).length=ops.size:=by rw [patch_len _ _ l2,fit.kl]
            obtain ⟨k1,k2⟩:=xDrP_ok (P:=P) (sl0:=fun u=>((clrA al s.sl).get u).getD .any) hc fit hb.1 hpl (by simp;omega) (fun i j k v h1 h2=>patch_a _ _ _ _ _ _ h1 h2) ops.toList kd ⟨clrA al s.sl,s.o,s.nk⟩ vs phs [] 0 0 rfl rfl hx rfl rfl hk rfl (fun u=>.inl rfl);have hw:WP P n k0 (.region id ops true) ⟨fun u=>((clrA al s.sl).get u).getD .any,(phx ((s.o,s.nk) :: phs) 0).1,(phx ((s.o,s.nk) :: phs) 0).2⟩ Q:=by
              refine WP.drawnP (P:=P) (Θ:=Θ) (n:=n) (k0:=k0) (Q:=Q) hΘ hm (id:=id) (ops:=ops) fit (phx ((s.o,s.nk) :: phs)) (patchV ((s.o,s.nk) :: phs) kd vs) hd hb.1 hpl (fun b hb=>by simp only [clrA_al al s.sl b hb];rfl) (fun i o v k ho hv hk=>k1 i o v k (Nat.zero_le _) ho hv hk) ?_;have e:slAt (fun u=>((clrA al s.sl).get u).getD .any) ((ops.toList.map (·.dst)).zip (patchV ((s.o,s.nk) :: phs) kd vs))=fun u=>(sl.get u).getD .any:=funext fun u=>(k2 u).symm;rw [e];simp only [phx,hL];exact hQ
            refine WP.of (fun E a w _ hr=>?_) hw;obtain ⟨S,γ,hr⟩:=hr;refine ⟨S,γ,hr.sto,hr.tr,fun u=>?_,fun u=>?_,hr.df,hr.nn⟩
            · show SR w S γ _ (((clrA al s.sl).get u).getD .any) _;rcases clrA_get al s.sl u with h | h
              · rw [h];exact hr.sl u
              · rw [h];exact .any _
            · show (((clrA al s.sl).get u).getD .any).lt _;rcases clrA_get al s.sl u with h | h
              · rw [h];exact hr.slt u
              · rw [h];trivial
theorem xDrawP_ok {P:Program} {n k0:Nat} {Q:Exit→St→Prop} (hΘ:TabOk P Θ) (hm:P.follows .mixedOrders=true) (hc:CallOk P call) {id:Nat} {ops:Array Oper} {s s':XS} (hd:(ops.toList.all fun o=>dstOk n o.dst)=true) (h:xDrawP Θ call ops s=some s') (hQ:Q .normal s'.st) :
 WP P n k0 (.region id ops true) s.st Q:=xDrawP1_ok Θ call hΘ hm hc hd h hQ
end
section
variable {P:Program} {Θ:Tab} {n k0:Nat} {Q:Exit→St→Prop}
end
section
variable {P:Program} {Θ:Tab} {ops:Array Oper} {K:St→Prop} {r:List Oper} {sl:Nat→SV} {d ty j lo m nk nk' i e:Nat} {o o':Nat→Option AO} {op:Op} {pos:String} {af:Array Edge} {want c:Bool} {v:SV} {L:List Ob} {ks:List KdP} {al:List Al}
end
section
variable {P:Program} {Θ:Tab} {K:SV→(Nat→Option AO)→Nat→Prop} {sl:Nat→SV} {o:Nat→Option AO} {nk:Nat} {x y:Operand} {t e:Nat}
end
def MSpec (P:Program) (f:FuncId) (args:Nat→List SV) (cs cs':List SV) (r:SV):Prop:=
 ∀ (o:Nat→Option AO) (nk k:Nat),o k=some (.box cs)→Spec P f (args k) o nk fun r' o' nk'=>r'=r∧o'=upd o k (some (.box cs'))∧nk'=nk
theorem Spec.pureM {P:Program} {f:FuncId} {args:List SV} {o:Nat→Option AO} {nk k:Nat} {r:SV} {cs cs':List SV} (hM:o k=some (.box cs)) (hcs:∀ m,SV.lts m cs') (hr:∀ m,r.lt m) (hid:r.ren id=r)
    (h:k < nk→Spec P f args o nk fun r' o' nk'=>r'=r∧nk≤nk'∧o' k=some (.box cs')∧∀ t,t < nk∧t≠k→o' t=o t):Spec P f args o nk fun r' o' nk'=>r'=r∧o'=upd o k (some (.box cs'))∧nk'=nk:=by
  intro w S γ vs h1 h2 h3 h4;have hkn:k < nk:=h1.o_lt k _ hM;refine (h hkn w S γ vs h1 h2 h3 h4).mono ?_;rintro v w' ⟨r',o',nk',S',γ',⟨rfl,hnk,hok,ho⟩,hs,ht,hsr,hl⟩;have hk:Wko nk id o' (upd o k (some (.box cs'))) nk:=by
    refine ⟨Nat.le_refl _,fun t x hx=>?_,fun t t' x x' _ _ e=>e,fun _ _ _ _=>rfl⟩;by_cases htk:t=k
    · subst htk;rw [upd_same] at hx;simp only [Option.some.injEq] at hx;subst hx;exact ⟨hkn,by rw [AO.ren_id];exact hok,hcs nk⟩
    · rw [upd_ne _ _ htk] at hx;have hlt:=h1.o_lt t x hx;refine ⟨hlt,by rw [AO.ren_id];show o' t=some x;rw [ho t ⟨hlt,htk⟩,hx],?_⟩;cases x with
      | box cs=>exact (h1.box t cs hx).2
      | row e z xs=>trivial
      | raw ob=>trivial
  exact ⟨r',_,nk,S',γ' ∘ id,⟨rfl,rfl,rfl⟩,hk.sto hs,hk.tr ht,hsr.of_ren (fun t x hx=>(hk.o t x hx).2.1) r' hid,hr _⟩
theorem MSpec.of {P:Program} {f:FuncId} {n:Nat} {ts:List Nat} {c:Code} {args:Nat→List SV} {cs cs':List SV} {r:SV} (hf:FnOk P f n ts c) (hn:∀ k,(args k).length≤n) (hcs:∀ m,SV.lts m cs') (hr:∀ m,r.lt m) (hid:r.ren id=r)
    (h:∀ o nk k,k < nk→o k=some (.box cs)→WP P n nk c ⟨slots (args k),o,nk⟩ (retQ ts fun r' o' nk'=>r'=r∧nk≤nk'∧o' k=some (.box cs')∧∀ t,t < nk∧t≠k→o' t=o t)):MSpec P f args cs cs' r:=
  fun o nk k hM=>Spec.pureM hM hcs hr hid fun hk=>Spec.of_body hf (hn k) (h o nk k hk hM)
section
variable {P:Program} {Θ:Tab} {K:SV→(Nat→Option AO)→Nat→Prop} {sl:Nat→SV} {o:Nat→Option AO} {nk:Nat} {x y:Operand} {t:Nat}
end
theorem Spec.weak {P:Program} {f:FuncId} {args:List SV} {o:Nat→Option AO} {nk:Nat} {x:D} {Q:(Nat→Option AO)→Nat→Prop} (h:Spec P f args o nk fun r o' nk'=>(∃ x',r=.d x'∧D.le x' x)∧Q o' nk'):Spec P f args o nk fun r o' nk'=>r=.d x∧Q o' nk':=by
 intro w S γ vs h1 h2 h3 h4;refine (h w S γ vs h1 h2 h3 h4).mono ?_;rintro v w' ⟨r',o',nk',S',γ',⟨⟨x',rfl,hle⟩,hq⟩,hs,ht,hsr,hl⟩;refine ⟨.d x,o',nk',S',γ',⟨rfl,hq⟩,hs,ht,?_,trivial⟩;cases hsr with
 | d _ _ hr=>exact .d _ _ (hr.le hle)
theorem WP.frzC4 {P:Program} {n k0:Nat} {Q:Exit→St→Prop} {c:Code} {sl:Nat→SV} {o:Nat→Option AO} {nk:Nat} (l:List (Nat×SV)) (k:Nat) {b e z:Nat} {pre post:List SV} {x:SV} {q:Option Nat} {xs:List D} (hb:o b=some (.box (pre++x :: post))) (hx:dstOf o e z x=some (q,xs)) (hkb:k≤b)
    (hp:∀ t,q=some t→pre.map (SV.frz t (.sl z xs))=pre∧post.map (SV.frz t (.sl z xs))=post) (hl:∀ t,q=some t→∀ p∈l,(sl p.1).frz t (.sl z xs)=p.2) (hl0:q=none→∀ p∈l,sl p.1=p.2)
    (h:∀ o1,o1 b=some (.box (pre ++ .d (.sl z xs) :: post))→(∀ u,u < k→q≠some u→o1 u=o u)→(∀ u cs,u≠b→o u=some (.box cs)→(∀ t,q=some t→cs.map (SV.frz t (.sl z xs))=cs)→o1 u=some (.box cs))→(∀ u e z xs,q≠some u→o u=some (.row e z xs)→o1 u=some (.row e z xs))→WP P n k0 c ⟨al l,o1,nk⟩ Q):WP P n k0 c ⟨sl,o,nk⟩ Q:=by
  cases q with
  | none=>
    have hn:x=.d .nil∧xs=[]:=by
      unfold dstOf at hx;split at hx <;> first | cases hx | skip
      · exact ⟨rfl,rfl⟩
      · split at hx
        · split at hx <;> cases hx
        · cases hx
    obtain ⟨rfl,rfl⟩:=hn;have les_refl:∀ ds:List SV,SV.les ds ds:=fun ds=>by
      induction ds with
      | nil=>trivial
      | cons d ds ih=>
        refine ⟨?_,ih⟩;cases d <;> first | exact D.le_refl _ | rfl
    have hle:SV.les (pre ++ .d .nil :: post) (pre ++ .d (.sl z []) :: post):=by
      clear hb hp hl h
      induction pre with
      | nil=>exact ⟨rfl,les_refl post⟩
      | cons d ds ih=>
        refine ⟨?_,ih⟩;cases d <;> first | exact D.le_refl _ | rfl
    refine WP.le (Le.al (hl0 rfl)) (WP.leB _ hb hle fun o1 h1 h2=>h o1 h1 (fun u hu _=>h2 u (by omega)) (fun u cs hu hcs _=>(h2 u hu).trans hcs) fun u e z xs _ hu=>(h2 u (fun e=>by rw [e,hb] at hu;cases hu)).trans hu)
  | some t=>
    have hn:x=.row t∧o t=some (.row e z xs):=by
      unfold dstOf at hx;split at hx <;> first | cases hx | skip
      split at hx
      · split at hx
        · rename_i h1 h2;simp only [Option.some.injEq,Prod.mk.injEq] at hx;obtain ⟨rfl,rfl⟩:=hx;obtain ⟨rfl,rfl⟩:=h2;exact ⟨rfl,h1⟩
        · cases hx
      · cases hx
    obtain ⟨rfl,ht⟩:=hn;have hbt:b≠t:=fun e=>by rw [e,ht] at hb;cases hb
    refine WP.frzL l k ht (hl t rfl) fun o1 h1 h2=>h o1 ?_ (fun u hu hq=>h1 u (fun e=>hq (by rw [e])) hu) (fun u cs hu hcs hm=>?_) fun u e0 z0 xs0 hq hu=>?_;rotate_left
    · have hut:u≠t:=fun e=>by rw [e,ht] at hcs;cases hcs
      rcases Nat.lt_or_ge u k with hk | hk
      · rw [h1 u hut hk,hcs]
      · rw [h2 u hut hk,hcs];simp only [Option.map_some,AO.frz,hm t rfl]
    · have hut:u≠t:=fun e=>hq (by rw [e]);rcases Nat.lt_or_ge u k with hk | hk
      · rw [h1 u hut hk,hu]
      · rw [h2 u hut hk,hu];rfl
    rw [h2 b hbt hkb,hb];simp only [Option.map_some,AO.frz,List.map_append,List.map_cons,(hp t rfl).1,(hp t rfl).2,SV.frz,if_true]
theorem dst_two {o:Nat→Option AO} {e z:Nat} {c:SV} {q:Option Nat} {xs:List D} (h:dstOf o e z c=some (q,xs)):(c=.d .nil∧q=none∧xs=[])∨∃ t,c=.row t∧q=some t∧o t=some (.row e z xs):=by
 unfold dstOf at h;split at h
 ·simp only [Option.some.injEq,Prod.mk.injEq] at h;exact .inl ⟨rfl,h.1.symm,h.2.symm⟩
 ·split at h
  ·split at h
   ·rename_i h1 h2;simp only [Option.some.injEq,Prod.mk.injEq] at h;obtain ⟨rfl,rfl⟩:=h;obtain ⟨rfl,rfl⟩:=h2;exact .inr ⟨_,rfl,rfl,h1⟩
   ·cases h
  ·cases h
 ·cases h
theorem WP.frzC2 {P:Program} {n k0:Nat} {Q:Exit→St→Prop} {c:Code} {sl:Nat→SV} {o:Nat→Option AO} {nk:Nat} (l:List (Nat×SV)) (k:Nat) {b e z e2 z2:Nat} {pre post:List SV} {x y:SV} {q q2:Option Nat} {xs ys:List D} (hb:o b=some (.box (pre++x :: y :: post))) (hx:dstOf o e z x=some (q,xs)) (hy:dstOf o e2 z2 y=some (q2,ys)) (hne:∀ t,q=some t→q2≠some t) (hkb:k≤b)
    (hp:∀ t d,pre.map (SV.frz t d)=pre∧post.map (SV.frz t d)=post) (hl:∀ t d,∀ p∈l,(sl p.1).frz t d=p.2∧p.2.frz t d=p.2) (hl0:∀ p∈l,sl p.1=p.2) (hal:∀ p∈l,al l p.1=p.2)
    (h:∀ o1,o1 b=some (.box (pre ++ .d (.sl z xs) :: .d (.sl z2 ys) :: post))→(∀ u,u < k→q≠some u→q2≠some u→o1 u=o u)→(∀ u cs,u≠b→o u=some (.box cs)→(∀ t d,cs.map (SV.frz t d)=cs)→o1 u=some (.box cs))→WP P n k0 c ⟨al l,o1,nk⟩ Q):WP P n k0 c ⟨sl,o,nk⟩ Q:=by
  have hyf:∀ t d,q=some t→y.frz t d=y:=fun t d ht=>by
    rcases dst_two hy with ⟨rfl,_,_⟩ | ⟨t2,rfl,h2,_⟩
    · rfl
    · simp only [SV.frz];rw [if_neg (fun e=>hne t ht (by rw [h2,e]))]
  refine WP.frzC4 (post:=y :: post) l k hb hx hkb (fun t ht=>⟨(hp t _).1,by simp only [List.map_cons,hyf t _ ht,(hp t _).2]⟩) (fun t _ p hpl=>(hl t _ p hpl).1) (fun _=>hl0) fun o1 h1 h2 h3 h4=>?_;have hy1:dstOf o1 e2 z2 y=some (q2,ys):=by
    rcases dst_two hy with ⟨rfl,rfl,rfl⟩ | ⟨t2,rfl,h5,h6⟩
    · rfl
    · have h7:=h4 t2 _ _ _ (fun e=>hne t2 e h5) h6;simp only [dstOf,h7,and_self,if_true,h5]
  have e:pre++SV.d (.sl z xs) :: y :: post=(pre++[SV.d (.sl z xs)])++y :: post:=by simp
  rw [e] at h1;refine WP.frzC4 (pre:=pre++[.d (.sl z xs)]) (post:=post) l k h1 hy1 hkb (fun t ht=>⟨by simp only [List.map_append,(hp t _).1,List.map_cons,List.map_nil,SV.frz],(hp t _).2⟩) (fun t _ p hpl=>by rw [hal p hpl];exact (hl t _ p hpl).2) (fun _=>hal) fun o2 g1 g2 g3 _=>?_;refine h o2 (by rw [g1];simp) (fun u hu ha hb2=>(g2 u hu hb2).trans (h2 u hu ha)) fun u cs hu hcs hm=>g3 u cs hu (h3 u cs hu hcs fun t _=>hm t _) fun t _=>hm t _
def encB (b:UInt8):D:=.int .u8 (b.toNat:Int)
abbrev SB:=List UInt8×Bool
def srcS (s:SB):List SV:=[.d (.sl 1 (s.1.map encB)),.d (.bool s.2)]
@[simp] theorem srcS_len (s:SB):(srcS s).length=2:=rfl
section
variable {P:Program} {Θ:Tab} {K:SV→(Nat→Option AO)→Nat→Prop} {sl:Nat→SV} {o:Nat→Option AO} {nk:Nat} {x:Operand} {t e:Nat}
end
def gBad (i c:Nat):Prop:=(i=9∧1 < c)∨(0 < i∧c=0)
instance (i c:Nat):Decidable (gBad i c):=by unfold gBad;infer_instance
def SBq (a b:SB):Prop:=a.2=b.2∧(a.2=false→a=b)
theorem SBq.refl (a:SB):SBq a a:=⟨rfl,fun _=>rfl⟩
theorem SBq.bad {a b:SB} (ha:a.2=true) (hb:b.2=true):SBq a b:=⟨ha.trans hb.symm,fun h=>by rw [ha] at h;cases h⟩
theorem SBq.cases {a b:SB} (h:SBq a b):a=b∨(a.2=true∧b.2=true):=by
 cases ha:a.2 with
 | false=>exact .inl (h.2 ha)
 | true=>exact .inr ⟨rfl,by rw [← h.1];exact ha⟩
theorem PSpec.wk {P:Program} {f:FuncId} {us:List SV} {x x':D} (h:PSpec P f us (.d x')) (hx:D.le x' x):PSpec P f us (.d x):=fun o nk=>Spec.weak (Q:=fun o' nk'=>o'=o∧nk'=nk) ((h o nk).mono fun r o' nk' h=>⟨⟨x',h.1,hx⟩,h.2⟩)
def hasC (k:Int):Bool:=decide (2≤k) && decide (k≤7)
def hasT (k:Int):Bool:=decide (k=7)
def hasI (k:Int):Bool:=decide (k=2) || decide (k=3) || decide (k=4)
def hasD (k:Int):Bool:=decide (k=2)
def hasS (k:Int):Bool:=decide (k=3)
structure Bits (k:Int):Prop where
 t1:(bitsOf .and .i64 (fieldsV k) 2 != 0)=hasT k
 t0:(bitsOf .and .i64 (fieldsV k) 2 == 0)=!hasT k
 c1:(bitsOf .and .i64 (fieldsV k) 1 != 0)=hasC k
 c0:(bitsOf .and .i64 (fieldsV k) 1 == 0)=!hasC k
 i1:(bitsOf .and .i64 (fieldsV k) 4 != 0)=hasI k
 i0:(bitsOf .and .i64 (fieldsV k) 4 == 0)=!hasI k
 d1:(bitsOf .and .i64 (fieldsV k) 8 != 0)=hasD k
 d0:(bitsOf .and .i64 (fieldsV k) 8 == 0)=!hasD k
 s1:(bitsOf .and .i64 (fieldsV k) 16 != 0)=hasS k
 s0:(bitsOf .and .i64 (fieldsV k) 16 == 0)=!hasS k
structure OkE (e:Etr):Prop where
 ri:rngV e.id
 si:szV e.id≤1099511627776
 rd:rngV e.doc
 sd:szV e.doc≤1099511627776
 ds:e.deltas.length≤64→∀ d∈e.deltas,okD d
open Classical in
open Classical in
@[simp] theorem vc_len (v:Val):(valCells v).length=5:=by cases v;rfl
end Go.Proofs.YtpkcbdhjnnnkbaaGreat.Abs

namespace Go.Proofs.YtpkcbdhjnnnkbaaGreat.Abs
open Go
section
variable (Θ:Tab) (nofr:Nat→Bool) (call:Nat→List SV→TM AO→Nat→Option XR)
def preD (l:List Oper) (s:XS):List Nat:=l.flatMap fun op=>preF nofr op.op s
def postD (l:List Oper) (s:XS):List Nat:=l.flatMap fun op=>postF op.op s
def xDrawF (ops:Array Oper) (s:XS):Option XS:=
 match s.frzs (preD nofr ops.toList s) with
 | s1=>match xDraw Θ call ops s1 with
  | some s'=>some s'
  | none=>match xDraw Θ call ops ((s1.frzs (postD ops.toList s1)).soft) with
   | some s'=>some s'
   | none=>match xDrawP Θ call ops s1 with
    | some s'=>some s'
    | none=>xDrawP Θ call ops ((s1.frzs (postD ops.toList s1)).soft)
end
def xRes (Θ:Tab):List ResultVar→XS→Option (List SV×XS)
 | [],s=>some ([],s)
 | .tmp t :: r,s=>match xRes Θ r s with
  | none=>none
  | some (vs,s')=>match s'.sl.get t with
   | none=>some (.any :: vs,s')
   | some v=>some (v :: vs,s')
 | .cell a t :: r,s=>match xRes Θ r s with
  | none=>none
  | some (vs,s')=>match s'.sl.get a with
   | some (.loc k f)=>match xld Θ s'.o.get t (.loc k f) with
    | some v=>some (v :: vs,s')
    | none=>none
   | _=>none
def cellsR (s:XS):List ResultVar→List Nat
 | []=>[]
 | .tmp _ :: r=>cellsR s r
 | .cell a _ :: r=>(match s.sl.get a with
  | some c=>rowsO s.o c
  | none=>[])++cellsR s r
theorem xRes_ok {Θ:Tab}:∀ {rs:List ResultVar} {s s':XS} {vs:List SV},xRes Θ rs s=some (vs,s')→s'=s∧ResL Θ s.st rs vs
 | [],s,s',vs,h=>by
  simp only [xRes,Option.some.injEq,Prod.mk.injEq] at h;obtain ⟨rfl,rfl⟩:=h;exact ⟨rfl,trivial⟩
 | .tmp t :: r,s,s',vs,h=>by
  simp only [xRes] at h;split at h
  ·cases h
  ·rename_i vs1 s1 h1;obtain ⟨rfl,h2⟩:=xRes_ok h1;split at h
   ·rename_i hg;simp only [Option.some.injEq,Prod.mk.injEq] at h;obtain ⟨rfl,rfl⟩:=h;exact ⟨rfl,(by show SV.any=(s1.sl.get t).getD .any;rw [hg];rfl),h2⟩
   ·rename_i v hg;simp only [Option.some.injEq,Prod.mk.injEq] at h;obtain ⟨rfl,rfl⟩:=h;exact ⟨rfl,(by show v=(s1.sl.get t).getD .any;rw [hg];rfl),h2⟩
 | .cell a t :: r,s,s',vs,h=>by
  simp only [xRes] at h;split at h
  ·cases h
  ·rename_i vs1 s1 h1;obtain ⟨rfl,h2⟩:=xRes_ok h1;split at h
   ·rename_i k f hg;split at h
    ·rename_i v hv;simp only [Option.some.injEq,Prod.mk.injEq] at h;obtain ⟨rfl,rfl⟩:=h;have hsl:s1.st.sl a=.loc k f:=by show (s1.sl.get a).getD .any=_;rw [hg];rfl
     refine ⟨rfl,⟨⟨k,f,hsl⟩,?_⟩,h2⟩;rw [hsl];exact xld_ok Θ hv rfl
    ·cases h
   ·cases h
def itB:Obj→Obj→Bool
 | .stringIter a i,.stringIter b j=>decide (a.data.toList=b.data.toList) && decide (i=j)
 | _,_=>false
theorem itB_ok {x y:Obj} (h:itB x y=true):x=y:=by
 unfold itB at h;split at h
 ·rename_i a i b j;simp only [Bool.and_eq_true,decide_eq_true_eq] at h;obtain ⟨h1,rfl⟩:=h;obtain ⟨⟨a⟩⟩:=a;obtain ⟨⟨b⟩⟩:=b;simp at h1;rw [h1]
 ·cases h
def kvB:List (D×D)→List (D×D)→Bool
 | [],[]=>true
 | (a,b) :: r,(c,d) :: q=>D.eqb a c && (D.eqb b d && kvB r q)
 | _,_=>false
theorem kvB_ok:∀ {x y:List (D×D)},kvB x y=true→x=y
 | [],[],_=>rfl
 | [],_ :: _,h=>by simp [kvB] at h
 | _ :: _,[],h=>by simp [kvB] at h
 | (a,b) :: r,(c,d) :: q,h=>by
  simp only [kvB,Bool.and_eq_true] at h;rw [D.eqb_ok _ _ h.1,D.eqb_ok _ _ h.2.1,kvB_ok h.2.2]
def AO.eqb:AO→AO→Bool
 | .box a,.box b=>SV.eqbs a b
 | .row e z xs,.row e2 z2 ys=>decide (e=e2) && (decide (z=z2) && D.eqbs xs ys)
 | .raw (.ob a),.raw (.ob b)=>itB a b
 | .raw (.map a),.raw (.map b)=>kvB a b
 | _,_=>false
theorem AO.eqb_ok {x y:AO} (h:AO.eqb x y=true):x=y:=by
 unfold AO.eqb at h;split at h
 ·rw [SV.eqbs_ok h]
 ·simp only [Bool.and_eq_true,decide_eq_true_eq] at h;obtain ⟨rfl,rfl,h⟩:=h;rw [D.eqbs_ok _ _ h]
 ·rw [itB_ok h]
 ·rw [kvB_ok h]
 ·cases h
def tmB:TM AO→TM AO→Bool
 | .e,.e=>true
 | .n none l r,.n none l2 r2=>tmB l l2 && tmB r r2
 | .n (some v) l r,.n (some v2) l2 r2=>AO.eqb v v2 && (tmB l l2 && tmB r r2)
 | _,_=>false
theorem tmB_ok:∀ {x y:TM AO},tmB x y=true→x=y
 | .e,.e,_=>rfl
 | .e,.n _ _ _,h=>by simp [tmB] at h
 | .n none l r,.n none l2 r2,h=>by
  simp only [tmB,Bool.and_eq_true] at h;rw [tmB_ok h.1,tmB_ok h.2]
 | .n (some v) l r,.n (some v2) l2 r2,h=>by
  simp only [tmB,Bool.and_eq_true] at h;rw [AO.eqb_ok h.1,tmB_ok h.2.1,tmB_ok h.2.2]
 | .n none _ _,.n (some _) _ _,h=>by simp [tmB] at h
 | .n (some _) _ _,.n none _ _,h=>by simp [tmB] at h
 | .n (some _) _ _,.e,h=>by simp [tmB] at h
 | .n none _ _,.e,h=>by simp [tmB] at h
structure ME where
 f:Nat
 a:List SV
 o:TM AO
 k:Nat
 r:SV
 o2:TM AO
 k2:Nat
structure Env where
 Θ:Tab
 tb:Nat→Option Func
 nat:Nat→List SV→Option D
 nofr:Nat→Bool
 pure:Nat→Bool
 memo:Nat→List SV→TM AO→Nat→Option XR
structure EnvOk (P:Program) (X:Env):Prop where
 hΘ:TabOk P X.Θ
 tb : ∀ f fn, X.tb f = some fn → P.funcs[f]? = some fn ∧ (fn.name == "runtime.NumGoroutine") = false
 nat:∀ f asx d,X.nat f asx=some d→PSpec P f asx (.d d)
 mix:P.follows .mixedOrders=true
 memo:CallOk P X.memo
def dataL:List SV→Bool
 | []=>true
 | .d _ :: r=>dataL r
 | _=>false
def dataR:SV→Bool
 | .d _=>true
 | .tup xs=>dataL xs
 | _=>false
def rowsR:List SV→List Nat
 | []=>[]
 | .ag cs :: r=>rowsL cs++rowsR r
 | c :: r=>rowsV c++rowsR r
def SV.dd:SV→SV
 | .dx z xs=>.d (.sl z xs)
 | .ag cs=>match allD cs with
  | some ds=>if ds.all D.leaf=true then .d (.agg ds) else .ag cs
  | none=>.ag cs
 | c=>c
theorem SR.dd {w:World} {S:Nat→Prop} {γ:Nat→Value} {o:Nat→Option AO} {c:SV} {v:Value} (hc:SR w S γ o c v):SR w S γ o c.dd v:=by
 cases c with
 | dx z xs=>cases hc with
  | dx _ _ _ hr _=>exact .d _ _ hr
 | ag cs=>
  simp only [SV.dd];split
  ·rename_i ds hds;split
   ·rename_i hl;cases hc with
    | ag _ vs hv hr h1=>
     have he:=allD_spec hds;subst he;refine .d _ _ (.agg ds vs hl (by simpa using hv) fun i x u hx hu=>?_);have:=hr i (.d x) u (by rw [List.getElem?_map,hx];rfl) hu;cases this with
     | d _ _ hq=>exact hq
   ·exact hc
  ·exact hc
 | _=>exact hc
theorem SV.dd_lt {c:SV} {n:Nat} (hc:c.lt n):c.dd.lt n:=by
 cases c with
 | ag cs=>
  simp only [SV.dd];split
  ·split
   ·trivial
   ·exact hc
  ·exact hc
 | _=>first | exact hc | trivial
def XS.dd (s:XS):XS:=⟨s.sl.mapT SV.dd,s.o,s.nk⟩
theorem XS.dd_ok {E:Ent} {s:XS} {a:Act} {w:World} (h:Rel E s.st a w):Rel E s.dd.st a w:=by
 obtain ⟨S,γ,h⟩:=h;have e:∀ u,(s.dd.st.sl u)=(s.st.sl u).dd:=fun u=>by
  simp only [XS.dd,XS.st,TM.get_mapT];cases s.sl.get u <;> rfl
 exact ⟨S,γ,h.sto,h.tr,fun u=>by rw [e];exact (h.sl u).dd,fun u=>by rw [e];exact SV.dd_lt (h.slt u),h.df,h.nn⟩
def XS.tame (Θ:Tab) (rs:List ResultVar) (s:XS):XS:=
 match xRes Θ rs s with
 | some (vs,_)=>(s.frzs (rowsR vs)).dd
 | none=>s
theorem XS.tame_ok {Θ:Tab} {rs:List ResultVar} {E:Ent} {s:XS} {a:Act} {w:World} (h:Rel E s.st a w):Rel E (s.tame Θ rs).st a w:=by
 unfold XS.tame;split
 ·exact XS.dd_ok (XS.frzs_ok _ h)
 ·exact h
mutual
def xCall (X:Env):Nat→Nat→List SV→TM AO→Nat→Option XR
  | 0,_,_,_,_=>none
  | m+1,f,asx,o,nk=>match X.memo f asx o nk with
    | some r=>some r
    | none=>match X.nat f asx with
      | some d=>some (.d d,o,nk)
      | none=>bif X.pure f && dataL asx then (match xBody X m true f asx .e 0 with
          | some (r,_,_)=>bif dataR r then some (r,o,nk) else none
          | none=>none)
        else xBody X m false f asx o nk
def xBody (X:Env):Nat→Bool→Nat→List SV→TM AO→Nat→Option XR
  | 0,_,_,_,_,_=>none
  | m+1,fz,f,asx,o,nk=>match X.tb f with
      | none=>none
      | some fn=>match fn.body with
        | none=>none
        | some c=>bif Nat.ble asx.length fn.ntmps then match xC X m fn.ntmps c ⟨TM.ofList asx,o,nk⟩ with
            | none=>none
            | some (e,s)=>match (match e with
                | .normal=>true
                | .ret=>true
                | _=>false) with
              | false=>none
              | true=>match xRes X.Θ fn.results.toList (match fz with
                    | true=>s.tame X.Θ fn.results.toList
                    | false=>s) with
                | some (vs,s')=>some (tupOf vs,s'.o,s'.nk)
                | none=>match s.frzs (cellsR s fn.results.toList) with
                  | s1=>match xRes X.Θ fn.results.toList s1 with
                    | some (vs,s')=>some (tupOf vs,s'.o,s'.nk)
                    | none=>none
          else none
def xC (X:Env):Nat→Nat→Code→XS→Option (Exit×XS)
  | 0,_,_,_=>none
  | m+1,n,c,s=>match c with
    | .skip=>some (.normal,s)
    | .ret=>some (.ret,s)
    | .exit id=>some (.exit id,s)
    | .seq x y=>match xC X m n x s with
      | none=>none
      | some (e,s')=>match e with
        | .normal=>xC X m n y s'
        | e=>some (e,s')
    | .block id c=>match xC X m n c s with
      | none=>none
      | some (e,s')=>match e with
        | .exit id'=>bif Nat.beq id' id then some (.normal,s') else some (.exit id',s')
        | e=>some (e,s')
    | .cond x c d=>match xev s x with
      | .d (.bool true)=>xC X m n c s
      | .d (.bool false)=>xC X m n d s
      | _=>none
    | .loop c=>match xC X m n c s with
      | none=>none
      | some (e,s')=>match e with
        | .normal=>xC X m n (.loop c) s'
        | e=>some (e,s')
    | .scope c=>match xC X m n c s with
      | none=>none
      | some (e,s')=>match e with
        | .goto _=>none
        | e=>some (e,s')
    | .region _ ops drawn=>bif ops.toList.all fun o=>dstOk n o.dst then match drawn with
        | false=>match xOps X.Θ X.nofr (xCall X m) ops ops.toList s with
          | some s'=>some (.normal,s')
          | none=>none
        | true=>match xDrawF X.Θ X.nofr (xCall X m) ops s with
          | some s'=>some (.normal,s')
          | none=>none
      else none
    | _=>none
end
def Ran (P:Program) (n:Nat) (c:Code) (s:XS) (e:Exit) (s':XS):Prop:=∀ E a w,E.n=n→Rel E s.st a w→c.wp P (fun e2 a2 w2=>e2=e∧Rel E s'.st a2 w2) a w
theorem xDrawF_ok {P:Program} {Θ:Tab} {nofr:Nat→Bool} {call:Nat→List SV→TM AO→Nat→Option XR} {n:Nat} (hΘ:TabOk P Θ) (hm:P.follows .mixedOrders=true) (hc:CallOk P call) {id:Nat} {ops:Array Oper} {s s':XS} (hd:(ops.toList.all fun o=>dstOk n o.dst)=true)
    (h:xDrawF Θ nofr call ops s=some s'):Ran P n (.region id ops true) s .normal s':=by
  have key:∀ {s1:XS},xDraw Θ call ops s1=some s'→∀ E a w,E.n=n→Rel E s1.st a w→(Code.region id ops true).wp P (fun e2 a2 w2=>e2=.normal∧Rel E s'.st a2 w2) a w:=by
    intro s1 h1 E a w he hr;have:=xDraw_ok (Θ:=Θ) (call:=call) (P:=P) (n:=n) (k0:=E.nk) (Q:=fun e s2=>e=.normal∧s2=s'.st) (id:=id) hΘ hm hc hd h1 ⟨rfl,rfl⟩ E a w he rfl hr;exact Go.wp_mono this (by rintro e a' w' ⟨s2,h2,rfl,rfl⟩;exact ⟨rfl,h2⟩)
  have keyP:∀ {s1:XS},xDrawP Θ call ops s1=some s'→∀ E a w,E.n=n→Rel E s1.st a w→(Code.region id ops true).wp P (fun e2 a2 w2=>e2=.normal∧Rel E s'.st a2 w2) a w:=by
    intro s1 h1 E a w he hr;have:=xDrawP_ok (Θ:=Θ) (call:=call) (P:=P) (n:=n) (k0:=E.nk) (Q:=fun e s2=>e=.normal∧s2=s'.st) (id:=id) hΘ hm hc hd h1 ⟨rfl,rfl⟩ E a w he rfl hr;exact Go.wp_mono this (by rintro e a' w' ⟨s2,h2,rfl,rfl⟩;exact ⟨rfl,h2⟩)
  intro E a w he hr;unfold xDrawF at h;simp only at h;have hr1:=XS.frzs_ok (preD nofr ops.toList s) hr;split at h
  · rename_i s2 h2;simp only [Option.some.injEq] at h;subst h;exact key h2 E a w he hr1
  · split at h
    · rename_i s2 h2;simp only [Option.some.injEq] at h;subst h;exact key h2 E a w he (XS.soft_ok (XS.frzs_ok _ hr1))
    · split at h
      · rename_i s2 h2;simp only [Option.some.injEq] at h;subst h;exact keyP h2 E a w he hr1
      · exact keyP h E a w he (XS.soft_ok (XS.frzs_ok _ hr1))
theorem cond_bool {E:Ent} {s:XS} {a:Act} {w:World} {x:Operand} {b:Bool} (hr:Rel E s.st a w) (h:xev s x=.d (.bool b)):a.eval x=.bool b:=by
 obtain ⟨S,γ,hr⟩:=hr;have h1:=hr.fr.ev x;rw [← xev_eq,h] at h1;generalize a.eval x=u at h1;cases h1 with
 | d _ _ h2=>cases h2;rfl
theorem xC_loop {P:Program} {X:Env}:∀ (m:Nat),(∀ k,k < m→∀ n c s e s',xC X k n c s=some (e,s')→Ran P n c s e s')→∀ n c s e s',xC X m n (.loop c) s=some (e,s')→∀ E,E.n=n→
    ∃ k,∀ a w,Rel E s.st a w→Code.rounds P c (fun e2 a2 w2=>e2=e∧Rel E s'.st a2 w2) k a w
  | 0,_,n,c,s,e,s',h,_,_=>by simp [xC] at h
  | m+1,ih,n,c,s,e,s',h,E,he=>by
    simp only [xC] at h;cases hb:xC X m n c s with
    | none=>rw [hb] at h;cases h
    | some p=>
      obtain ⟨e1,s1⟩:=p;rw [hb] at h;have h1:=ih m (by omega) _ _ _ _ _ hb E;cases e1 with
      | normal=>
        simp only at h;obtain ⟨k,hk⟩:=xC_loop m (fun k hk=>ih k (by omega)) n c s1 e s' h E he;refine ⟨k+1,fun a w hr=>Go.wp_mono (h1 a w he hr) ?_⟩;rintro e2 a2 w2 ⟨rfl,h2⟩;exact hk a2 w2 h2
      | _=>
        simp only [Option.some.injEq,Prod.mk.injEq] at h;obtain ⟨rfl,rfl⟩:=h;refine ⟨1,fun a w hr=>Go.wp_mono (h1 a w he hr) ?_⟩;rintro e2 a2 w2 ⟨rfl,h2⟩;exact ⟨rfl,h2⟩
theorem of_list_st (asx:List SV) (o:TM AO) (nk:Nat):(XS.mk (TM.ofList asx) o nk).st={ sl:=slots asx,o:=o.get,nk:=nk }:=by
 simp only [XS.st,St.mk.injEq,and_true];funext u;rw [TM.get_ofList];simp [slots]
theorem ret_res {P:Program} {Θ:Tab} {E:Ent} {s s2:XS} {rs:List ResultVar} {vs:List SV} {e:Exit} {a:Act} {w:World} (he:e=.normal∨e=.ret) (h:xRes Θ rs s=some (vs,s2)) (hr:Rel E s.st a w) :
    ∃ s3,Rel E s3 a w∧retC Θ rs (fun r2 o2 n2=>r2=tupOf vs∧o2=s2.o.get∧n2=s2.nk) e s3:=by
  obtain ⟨rfl,h2⟩:=xRes_ok h;refine ⟨_,hr,?_⟩;rcases he with rfl | rfl <;> exact ⟨vs,h2,rfl,rfl,rfl⟩
theorem dataL_d:∀ {asx:List SV},dataL asx=true→∀ (i:Nat) (c:SV),asx[i]?=some c→∃ x,c=.d x
 | [],_,i,c,h=>by simp at h
 | .d x :: r,_,0,c,h=>by simp at h;exact ⟨x,h.symm⟩
 | .d x :: r,hd,i+1,c,h=>dataL_d (asx:=r) (by simpa [dataL] using hd) i c (by simpa using h)
 | .loc _ _ :: r,hd,i,c,h=>by simp [dataL] at hd
 | .row _ :: r,hd,i,c,h=>by simp [dataL] at hd
 | .el _ :: r,hd,i,c,h=>by simp [dataL] at hd
 | .rel _ _ _ :: r,hd,i,c,h=>by simp [dataL] at hd
 | .clo _ _ _ :: r,hd,i,c,h=>by simp [dataL] at hd
 | .tup _ :: r,hd,i,c,h=>by simp [dataL] at hd
 | .raw _ :: r,hd,i,c,h=>by simp [dataL] at hd
 | .any :: r,hd,i,c,h=>by simp [dataL] at hd
 | .view _ _ _ _ :: r,hd,i,c,h=>by simp [dataL] at hd
 | .dx _ _ :: r,hd,i,c,h=>by simp [dataL] at hd
 | .ag _ :: r,hd,i,c,h=>by simp [dataL] at hd
theorem sr_data {w w':World} {S S':Nat→Prop} {γ γ':Nat→Value} {o o':Nat→Option AO} {r:SV} {v:Value} (h:SR w S γ o r v) (hd:dataR r=true) (hS:∀ k,S k→S' k):SR w S' γ' o' r v∧∀ m,r.lt m:=by
 cases h with
 | d x _ hr=>exact ⟨.d _ _ (hr.mono hS fun _ _=>rfl),fun _=>trivial⟩
 | tup xs vs hv hr=>
  have hd:dataL xs=true:=hd;refine ⟨.tup xs vs hv fun i c u hc hu=>?_,fun m=>lts_of fun i c hc=>?_⟩
  ·obtain ⟨x,rfl⟩:=dataL_d hd i c hc;cases hr i _ u hc hu with
   | d _ _ hr=>exact .d _ _ (hr.mono hS fun _ _=>rfl)
  ·obtain ⟨x,rfl⟩:=dataL_d hd i c hc;trivial
 | _=>simp [dataR] at hd
theorem Spec.closeR {P:Program} {f:FuncId} {asx:List SV} {x:SV} (ha:dataL asx=true) (hx:dataR x=true) (h:Spec P f asx (fun _=>none) 0 fun r _ _=>r=x):PSpec P f asx x:=by
 intro o nk w S γ vs h1 h2 h3 h4;have hd:∀ (i:Nat) (c:SV) (v:Value),asx[i]?=some c→vs[i]?=some v→SR w S γ (fun _=>none) c v:=fun i c v hc hv=>by
  have hr:=h3 i c v hc hv;obtain ⟨y,rfl⟩:=dataL_d ha i c hc;cases hr with
  | d _ _ hr=>exact .d _ _ hr
 have hl:SV.lts 0 asx:=lts_of fun i c hc=>by
  obtain ⟨d,rfl⟩:=dataL_d ha i c hc;trivial
 have hs:Sto w S γ (fun _=>none) 0:=⟨h1.s_lt,fun _ _ h=>(by cases h),fun _ _ h=>(by cases h),fun _ _ _ _ h=>(by cases h),fun _ _ h=>(by cases h),fun _ _ _ h=>(by cases h),fun _ _ _ _ _ _ h=>(by cases h)⟩;refine (h w S γ vs hs h2 hd hl).mono ?_;rintro v w' ⟨r,o',nk',S',γ',rfl,k1,k2,k3,k4⟩;have hk:∀ k,k < w.heap.size→w'.heap[k]?=w.heap[k]?:=fun k hk=>k2.kept k hk (by rintro ⟨t,x,ht,_⟩;cases ht);obtain ⟨m1,m2⟩:=h1.more (w':=w') (fun k=>w.heap.size≤k∧k < w'.heap.size) (fun _ h=>h) k2.os k2.tape k2.output k2.size hk;have g:=sr_data (w':=w) (γ':=γ) (o':=o) (S':=fun k=>S k∨(w.heap.size≤k∧k < w'.heap.size)) k3 hx (fun k hk=>by
  rcases k2.s_new k hk with h | h | ⟨t,x,ht,_⟩
  ·exact .inl h
  ·exact .inr ⟨h,k1.s_lt k hk⟩
  ·cases ht)
 exact ⟨_,o,nk,_,γ,⟨rfl,rfl,rfl⟩,m1,m2,g.1,g.2 _⟩
theorem dataL_map:∀ xs:List D,dataL (xs.map .d)=true
 | []=>rfl
 | _ :: r=>dataL_map r
theorem Spec.close {P:Program} {f:FuncId} {xs:List D} {x:D} (h:Spec P f (xs.map .d) (fun _=>none) 0 fun r _ _=>r=.d x):PSpec P f (xs.map .d) (.d x):=Spec.closeR (dataL_map xs) rfl h
theorem xC_ok {P:Program} {X:Env} (hX:EnvOk P X):∀ m,(∀ n c s e s',xC X m n c s=some (e,s')→Ran P n c s e s')∧CallOk P (xCall X m)∧∀ fz,CallOk P (xBody X m fz):=by
 intro m
 induction m using Nat.strongRecOn with
 | _ m ih=>
  cases m with
  | zero=>exact ⟨fun n c s e s' h=>by simp [xC] at h,fun f asx o nk r o' nk' h=>by simp [xCall] at h,fun fz f asx o nk r o' nk' h=>by simp [xBody] at h⟩
  | succ m=>
   obtain ⟨ihC,ihF,ihB⟩:=ih m (by omega);refine ⟨?_,?_,?_⟩
   ·intro n c s e s' h;cases c with
    | skip=>
     simp only [xC,Option.some.injEq,Prod.mk.injEq] at h;obtain ⟨rfl,rfl⟩:=h;exact fun E a w he hr=>wp_skip ⟨rfl,hr⟩
    | ret=>
     simp only [xC,Option.some.injEq,Prod.mk.injEq] at h;obtain ⟨rfl,rfl⟩:=h;exact fun E a w he hr=>wp_ret ⟨rfl,hr⟩
    | exit id=>
     simp only [xC,Option.some.injEq,Prod.mk.injEq] at h;obtain ⟨rfl,rfl⟩:=h;exact fun E a w he hr=>wp_exit ⟨rfl,hr⟩
    | seq x y=>
     simp only [xC] at h;cases hb:xC X m n x s with
     | none=>rw [hb] at h;cases h
     | some p=>
      obtain ⟨e1,s1⟩:=p;rw [hb] at h;have h1:=ihC _ _ _ _ _ hb;intro E a w he hr;refine wp_seq (Go.wp_mono (h1 E a w he hr) ?_);rintro e2 a2 w2 ⟨rfl,h2⟩;cases e2 with
      | normal=>exact ihC _ _ _ _ _ h E a2 w2 he h2
      | _=>
       simp only [Option.some.injEq,Prod.mk.injEq] at h;obtain ⟨rfl,rfl⟩:=h;exact ⟨rfl,h2⟩
    | block id c=>
     simp only [xC] at h;cases hb:xC X m n c s with
     | none=>rw [hb] at h;cases h
     | some p=>
      obtain ⟨e1,s1⟩:=p;rw [hb] at h;have h1:=ihC _ _ _ _ _ hb;intro E a w he hr;refine wp_block (Go.wp_mono (h1 E a w he hr) ?_);rintro e2 a2 w2 ⟨rfl,h2⟩;cases e2 with
      | exit id'=>
       simp only at h;show if id'=id then _ else _
       by_cases hid:id'=id
       ·subst hid;rw [if_pos rfl];simp only [Nat.beq_refl,cond_true,Option.some.injEq,Prod.mk.injEq] at h;obtain ⟨rfl,rfl⟩:=h;exact ⟨rfl,h2⟩
       ·rw [if_neg hid];rw [TM.beq_cond,if_neg hid] at h;simp only [Option.some.injEq,Prod.mk.injEq] at h;obtain ⟨rfl,rfl⟩:=h;exact ⟨rfl,h2⟩
      | _=>
       simp only [Option.some.injEq,Prod.mk.injEq] at h;obtain ⟨rfl,rfl⟩:=h;exact ⟨rfl,h2⟩
    | cond x c d=>
     simp only [xC] at h;intro E a w he hr;split at h
     ·rename_i hx;exact wp_cond_true (cond_bool hr hx) (ihC _ _ _ _ _ h E a w he hr)
     ·rename_i hx;exact wp_cond_false (cond_bool hr hx) (ihC _ _ _ _ _ h E a w he hr)
     ·cases h
    | loop c=>
     intro E a w he hr;obtain ⟨k,hk⟩:=xC_loop (m+1) (fun k hk=>(ih k hk).1) n c s e s' h E he;exact wp_loop_rounds k (hk a w hr)
    | scope c=>
     simp only [xC] at h;cases hb:xC X m n c s with
     | none=>rw [hb] at h;cases h
     | some p=>
      obtain ⟨e1,s1⟩:=p;rw [hb] at h;have h1:=ihC _ _ _ _ _ hb;intro E a w he hr;refine wp_scope_straight (Go.wp_mono (h1 E a w he hr) ?_);rintro e2 a2 w2 ⟨rfl,h2⟩;cases e2 <;> first | (cases h;done) | (simp only [Option.some.injEq,Prod.mk.injEq] at h;obtain ⟨rfl,rfl⟩:=h;exact ⟨rfl,h2⟩)
    | region id ops drawn=>
     unfold xC at h;simp only at h;cases hd:(ops.toList.all fun o=>dstOk n o.dst) with
     | false=>rw [hd] at h;cases h
     | true=>
      rw [hd] at h;simp only [cond_true] at h;cases drawn with
      | false=>
       simp only at h;split at h
       ·rename_i s1 hs1;simp only [Option.some.injEq,Prod.mk.injEq] at h;obtain ⟨rfl,rfl⟩:=h;intro E a w he hr;refine wp_region_list ?_;exact xOps_ok hX.hΘ ihF (fun a w hr=>⟨rfl,hr⟩) _ _ a w (by rw [he];exact hd) hr hs1
       ·cases h
      | true=>
       simp only at h;split at h
       ·rename_i s1 hs1;simp only [Option.some.injEq,Prod.mk.injEq] at h;obtain ⟨rfl,rfl⟩:=h;exact xDrawF_ok hX.hΘ hX.mix ihF hd hs1
       ·cases h
    | _=>simp [xC] at h
   ·intro f asx o nk r o' nk' h;simp only [xCall] at h;split at h
    ·rename_i r0 hd;simp only [Option.some.injEq] at h;subst h;exact hX.memo f asx o nk r o' nk' hd
    split at h
    ·rename_i d hd;simp only [Option.some.injEq,Prod.mk.injEq] at h;obtain ⟨rfl,rfl,rfl⟩:=h;exact hX.nat f asx d hd o.get nk
    ·cases hp:(X.pure f && dataL asx) with
     | false=>
      rw [hp] at h;exact ihB false f asx o nk r o' nk' h
     | true=>
      rw [hp] at h;simp only [cond_true] at h;simp only [Bool.and_eq_true] at hp;cases hb:xBody X m true f asx .e 0 with
      | none=>rw [hb] at h;cases h
      | some q=>
       obtain ⟨r1,o1,k1⟩:=q;rw [hb] at h;simp only at h;cases hd:dataR r1 with
       | false=>rw [hd] at h;cases h
       | true=>
        rw [hd] at h;simp only [cond_true,Option.some.injEq,Prod.mk.injEq] at h;obtain ⟨rfl,rfl,rfl⟩:=h;have hs:=ihB true f asx .e 0 _ _ _ hb;have he:(TM.e:TM AO).get=fun _=>none:=by funext u;rfl
        rw [he] at hs;exact Spec.closeR hp.2 hd (hs.mono fun r2 o2 n2 h=>h.1) o.get nk
   ·intro fz f asx o nk r o' nk' h;simp only [xBody] at h;split at h
    ·cases h
    ·rename_i fn hfn;split at h
     ·cases h
     ·rename_i c hbody;cases hle:Nat.ble asx.length fn.ntmps with
      | false=>rw [hle] at h;cases h
      | true=>
       rw [hle] at h;simp only [cond_true] at h;split at h
       ·cases h
       ·rename_i e s1 hrun;have hrun:=ihC _ _ _ _ _ hrun;split at h
        ·cases h
        ·rename_i he;have he:e=.normal∨e=.ret:=by cases e <;> simp_all
         obtain ⟨k1,k2⟩:=hX.tb f fn hfn;refine Spec.of_bodyC hX.hΘ (rs:=fn.results.toList) (c:=c) (n:=fn.ntmps) ⟨fn,k1,hbody,k2,rfl,rfl⟩ (Nat.le_of_ble_eq_true hle) ?_;rw [← of_list_st];intro E a w hn _ hr;refine Go.wp_mono (hrun E a w hn hr) ?_;rintro e2 a2 w2 ⟨rfl,h2⟩;split at h
         ·rename_i vs s2 hres;simp only [Option.some.injEq,Prod.mk.injEq] at h;obtain ⟨rfl,rfl,rfl⟩:=h;cases fz with
          | true=>exact ret_res (P:=P) he hres (XS.tame_ok h2)
          | false=>exact ret_res (P:=P) he hres h2
         ·split at h
          ·rename_i vs s2 hres;simp only [Option.some.injEq,Prod.mk.injEq] at h;obtain ⟨rfl,rfl,rfl⟩:=h;exact ret_res (P:=P) he hres (XS.frzs_ok _ h2)
          ·cases h
def isD (x:D):Option XR→Bool
 | some (.d y,_,_)=>D.eqb x y
 | _=>false
theorem PSpec.run {P:Program} {X:Env} (hX:EnvOk P X) (m:Nat) {f:FuncId} {xs:List D} {x:D} (h:isD x (xCall X m f (xs.map .d) .e 0)=true):PSpec P f (xs.map .d) (.d x):=by
 refine Spec.close ?_;cases hx:xCall X m f (xs.map .d) .e 0 with
 | none=>rw [hx] at h;cases h
 | some p=>
  obtain ⟨r,o',nk'⟩:=p;rw [hx] at h;have hs:=(xC_ok hX m).2.1 _ _ _ _ _ _ _ hx;have he:(TM.e:TM AO).get=fun _=>none:=by funext u;rfl
  rw [he] at hs;refine hs.mono ?_;rintro r2 o2 n2 ⟨rfl,_,_⟩;cases r2 <;> simp only [isD] at h <;> try (cases h;done)
  rw [D.eqb_ok _ _ h]
def isR (r:SV) (o2:TM AO) (k2:Nat):Option XR→Bool
 | some (r',o',k')=>Nat.beq k2 k' && (SV.eqb r r' && tmB o2 o')
 | _=>false
theorem ME.run {P:Program} {X:Env} (hX:EnvOk P X) (m:Nat) (e:ME) (h:isR e.r e.o2 e.k2 (xCall X m e.f e.a e.o e.k)=true):Spec P e.f e.a e.o.get e.k fun r2 o2 n2=>r2=e.r∧o2=e.o2.get∧n2=e.k2:=by
 cases hx:xCall X m e.f e.a e.o e.k with
 | none=>rw [hx] at h;cases h
 | some p=>
  obtain ⟨r,o',k'⟩:=p;rw [hx] at h;simp only [isR,Bool.and_eq_true] at h;obtain ⟨h1,h2,h3⟩:=h;rw [Nat.eq_of_beq_eq_true h1,SV.eqb_ok h2,tmB_ok h3];exact (xC_ok hX m).2.1 _ _ _ _ _ _ _ hx
def tbF:List (Nat×Func)→Nat→Option Func
 | [],_=>none
 | (k,fn) :: r,f=>bif Nat.beq k f then some fn else tbF r f
theorem tbF_ok {P : Program} : ∀ (l : List (Nat × Func)), (∀ p ∈ l, P.funcs[p.1]? = some p.2 ∧ (p.2.name == "runtime.NumGoroutine") = false) → ∀ f fn, tbF l f = some fn → P.funcs[f]? = some fn ∧ (fn.name == "runtime.NumGoroutine") = false
 | [],_,f,fn,h=>by simp [tbF] at h
 | (k,g) :: r,hl,f,fn,h=>by
  simp only [tbF,TM.beq_cond] at h;split at h
  ·rename_i hk;subst hk;simp only [Option.some.injEq] at h;subst h;exact hl (k,g) (by simp)
  ·exact tbF_ok r (fun p hp=>hl p (by simp [hp])) f fn h
end Go.Proofs.YtpkcbdhjnnnkbaaGreat.Abs

namespace Go.Proofs.YtpkcbdhjnnnkbaaGreat.Abs.Run27
open Go
noncomputable def tbl:List (Nat×Func):=[(27,Tryz.f27),(29,Tryz.f29),(34,Tryz.f34),(36,Tryz.f36),(38,Tryz.f38),(39,Tryz.f39),(41,Tryz.f41),(42,Tryz.f42),(56,Tryz.f56),(70,Tryz.f70),(71,Tryz.f71),(72,Tryz.f72),(73,Tryz.f73),(74,Tryz.f74),(75,Tryz.f75),(76,Tryz.f76),(77,Tryz.f77),(78,Tryz.f78),(84,Tryz.f84),(85,Tryz.f85),(86,Tryz.f86),(87,Tryz.f87),(92,Tryz.f92),(93,Tryz.f93),(106,Tryz.f106),(107,Tryz.f107),(108,Tryz.f108),(109,Tryz.f109),(110,Tryz.f110),(111,Tryz.f111),(112,Tryz.f112),(119,Tryz.f119),(120,Tryz.f120),(121,Tryz.f121),(122,Tryz.f122),(123,Tryz.f123),(124,Tryz.f124),(125,Tryz.f125),(126,Tryz.f126),(127,Tryz.f127),(128,Tryz.f128),(129,Tryz.f129),(130,Tryz.f130),(131,Tryz.f131),(132,Tryz.f132),(133,Tryz.f133),(137,Tryz.f137),(138,Tryz.f138),(139,Tryz.f139),(142,Tryz.f142),(143,Tryz.f143),(151,Tryz.f151),(152,Tryz.f152),(153,Tryz.f153),(154,Tryz.f154),(155,Tryz.f155),(156,Tryz.f156),(157,Tryz.f157),(158,Tryz.f158),(159,Tryz.f159),(160,Tryz.f160),(161,Tryz.f161),(162,Tryz.f162),(163,Tryz.f163),(164,Tryz.f164),(165,Tryz.f165),(166,Tryz.f166),(167,Tryz.f167),(168,Tryz.f168),(169,Tryz.f169),(179,Tryz.f179),(180,Tryz.f180),(181,Tryz.f181),(182,Tryz.f182),(183,Tryz.f183),(184,Tryz.f184),(185,Tryz.f185),(186,Tryz.f186),(187,Tryz.f187),(188,Tryz.f188),(189,Tryz.f189),(190,Tryz.f190),(191,Tryz.f191),(192,Tryz.f192),(193,Tryz.f193),(197,Tryz.f197),(199,Tryz.f199),(200,Tryz.f200),(201,Tryz.f201),(203,Tryz.f203),(204,Tryz.f204),(209,Tryz.f209)]
theorem tbl_ok : ∀ p ∈ tbl, Tryz.prog.funcs[p.1]? = some p.2 ∧ (p.2.name == "runtime.NumGoroutine") = false := by
 simp only [tbl,List.forall_mem_cons];exact ⟨⟨Tryz.func27,by kernel_rfl⟩,⟨Tryz.func29,by kernel_rfl⟩,⟨Tryz.func34,by kernel_rfl⟩,⟨Tryz.func36,by kernel_rfl⟩,⟨Tryz.func38,by kernel_rfl⟩,⟨Tryz.func39,by kernel_rfl⟩,⟨Tryz.func41,by kernel_rfl⟩,⟨Tryz.func42,by kernel_rfl⟩,⟨Tryz.func56,by kernel_rfl⟩,⟨Tryz.func70,by kernel_rfl⟩,⟨Tryz.func71,by kernel_rfl⟩,⟨Tryz.func72,by kernel_rfl⟩,⟨Tryz.func73,by kernel_rfl⟩,⟨Tryz.func74,by kernel_rfl⟩,⟨Tryz.func75,by kernel_rfl⟩,⟨Tryz.func76,by kernel_rfl⟩,⟨Tryz.func77,by kernel_rfl⟩,⟨Tryz.func78,by kernel_rfl⟩,⟨Tryz.func84,by kernel_rfl⟩,⟨Tryz.func85,by kernel_rfl⟩,⟨Tryz.func86,by kernel_rfl⟩,⟨Tryz.func87,by kernel_rfl⟩,⟨Tryz.func92,by kernel_rfl⟩,⟨Tryz.func93,by kernel_rfl⟩,⟨Tryz.func106,by kernel_rfl⟩,⟨Tryz.func107,by kernel_rfl⟩,⟨Tryz.func108,by kernel_rfl⟩,⟨Tryz.func109,by kernel_rfl⟩,⟨Tryz.func110,by kernel_rfl⟩,⟨Tryz.func111,by kernel_rfl⟩,⟨Tryz.func112,by kernel_rfl⟩,⟨Tryz.func119,by kernel_rfl⟩,⟨Tryz.func120,by kernel_rfl⟩,⟨Tryz.func121,by kernel_rfl⟩,⟨Tryz.func122,by kernel_rfl⟩,⟨Tryz.func123,by kernel_rfl⟩,⟨Tryz.func124,by kernel_rfl⟩,⟨Tryz.func125,by kernel_rfl⟩,⟨Tryz.func126,by kernel_rfl⟩,⟨Tryz.func127,by kernel_rfl⟩,⟨Tryz.func128,by kernel_rfl⟩,⟨Tryz.func129,by kernel_rfl⟩,⟨Tryz.func130,by kernel_rfl⟩,⟨Tryz.func131,by kernel_rfl⟩,⟨Tryz.func132,by kernel_rfl⟩,⟨Tryz.func133,by kernel_rfl⟩,⟨Tryz.func137,by kernel_rfl⟩,⟨Tryz.func138,by kernel_rfl⟩,⟨Tryz.func139,by kernel_rfl⟩,⟨Tryz.func142,by kernel_rfl⟩,⟨Tryz.func143,by kernel_rfl⟩,⟨Tryz.func151,by kernel_rfl⟩,⟨Tryz.func152,by kernel_rfl⟩,⟨Tryz.func153,by kernel_rfl⟩,⟨Tryz.func154,by kernel_rfl⟩,⟨Tryz.func155,by kernel_rfl⟩,⟨Tryz.func156,by kernel_rfl⟩,⟨Tryz.func157,by kernel_rfl⟩,⟨Tryz.func158,by kernel_rfl⟩,⟨Tryz.func159,by kernel_rfl⟩,⟨Tryz.func160,by kernel_rfl⟩,⟨Tryz.func161,by kernel_rfl⟩,⟨Tryz.func162,by kernel_rfl⟩,⟨Tryz.func163,by kernel_rfl⟩,⟨Tryz.func164,by kernel_rfl⟩,⟨Tryz.func165,by kernel_rfl⟩,⟨Tryz.func166,by kernel_rfl⟩,⟨Tryz.func167,by kernel_rfl⟩,⟨Tryz.func168,by kernel_rfl⟩,⟨Tryz.func169,by kernel_rfl⟩,⟨Tryz.func179,by kernel_rfl⟩,⟨Tryz.func180,by kernel_rfl⟩,⟨Tryz.func181,by kernel_rfl⟩,⟨Tryz.func182,by kernel_rfl⟩,⟨Tryz.func183,by kernel_rfl⟩,⟨Tryz.func184,by kernel_rfl⟩,⟨Tryz.func185,by kernel_rfl⟩,⟨Tryz.func186,by kernel_rfl⟩,⟨Tryz.func187,by kernel_rfl⟩,⟨Tryz.func188,by kernel_rfl⟩,⟨Tryz.func189,by kernel_rfl⟩,⟨Tryz.func190,by kernel_rfl⟩,⟨Tryz.func191,by kernel_rfl⟩,⟨Tryz.func192,by kernel_rfl⟩,⟨Tryz.func193,by kernel_rfl⟩,⟨Tryz.func197,by kernel_rfl⟩,⟨Tryz.func199,by kernel_rfl⟩,⟨Tryz.func200,by kernel_rfl⟩,⟨Tryz.func201,by kernel_rfl⟩,⟨Tryz.func203,by kernel_rfl⟩,⟨Tryz.func204,by kernel_rfl⟩,⟨Tryz.func209,by kernel_rfl⟩,by simp⟩
noncomputable def nofr:List Nat:=[34,38,85,87,92,93,106,107,108,109,138,139,143,151,179,180,191,193]
noncomputable def pures:List Nat:=[29,56,70,71,72,73,74,76,77,78,110,111,120,122,123,124,125,126,128,130,131,132,133,152,153,155,156,157,158,160,161,162,164,166,167,168,181,182,183,184,186,187,188,189,197,199,203,204,209]
def natF (f:Nat) (asx:List SV):Option D:=
 match asx with
 | [.d (.str s),.d (.int .u8 c)]=>bif Nat.beq f 208 then some (.int .i64 (Go.Lib.indexByte s c.toNat.toUInt8)) else none
 | [.d (.str s),.d (.str t)]=>bif Nat.beq f 212 then some (.int .i64 (Go.Lib.compareBytes s t)) else none
 | _=>none
theorem natF_ok (f:Nat) (asx:List SV) (d:D) (h:natF f asx=some d):PSpec Tryz.prog f asx (.d d):=by
 unfold natF at h;split at h
 ·rw [TM.beq_cond] at h;split at h
  ·rename_i hf;subst hf;simp only [Option.some.injEq] at h;subst h;exact s208 _ _
  ·cases h
 ·rw [TM.beq_cond] at h;split at h
  ·rename_i hf;subst hf;simp only [Option.some.injEq] at h;subst h;exact s212 _ _
  ·cases h
 ·cases h
noncomputable def env:Env:=⟨Θ,tbF tbl,natF,fun f=>(nofr++[0,1,2,3,4,5,6,7,8,9,10,11,12,13,14,15,16,17,18,19,20,21,22,23,24,25,26,27,28,29,30,31,32,33,34,35,36,37,38,39,40,41,42,43,44,45,46,47,48,49,50,51,52,53,54,55,56,57,58,59,60,61,62,63,64,65,66,67,68,69,70,71,72,73,74,75,76,77,78,79,80,81,82,83,84,85,86,87,88,89,90,91,92,93,94,95,96,97,98,99,100,101,102,103,104,105,106,107,108,109,110,111,112,113,114,115,116,117,118,119,120,121,122,123,124,125,126,127,128,129,130,131,132,133,134,135,136,137,138,139,140,141,142,143,144,145,146,147,148,149,150,151,152,153,154,155,156,157,158,159,160,161,162,163,164,165,166,167,168,169,170,171,172,173,174,175,176,177,178,179,180,181,182,183,184,185,186,187,188,189,190,191,192,193,194,195,196,197,198,199,200,201,202,203,204,205,206,207,208,209,210,211,212,213,214,215,216,217,218,219,220,221,222,223,224,225,226,227,228,229,230,231,232,233,234,235,236,237,238,239,240,241,242,243,244,245,246,247,248,249,250,251,252,253,254,255,256,257,258,259,260,261,262,263,264,265,266,267,268,269,270,271,272,273,274,275,276,277,278,279,280,281,282,283,284,285,286,287,288,289,290,291,292,293,294,295,296,297,298,299,300,301,302,303,304,305,306,307,308,309,310,311,312,313,314,315,316,317,318,319,320,321,322,323,324,325,326,327,328,329,330]).contains f,fun f=>pures.contains f,fun _ _ _ _=>none⟩
theorem envOk:EnvOk Tryz.prog env:=⟨tabOk,fun f fn h=>tbF_ok tbl tbl_ok f fn h,natF_ok,mix,fun _ _ _ _ _ _ _ h=>by cases h⟩
theorem ran:isD (.bool true) (xCall env 1000000 27 (([]:List D).map .d) .e 0)=true:=by kernel_rfl
theorem s:PSpec Tryz.prog 27 (([]:List D).map .d) (.d (.bool true)):=PSpec.run envOk 1000000 (xs:=([]:List D)) ran
end Go.Proofs.YtpkcbdhjnnnkbaaGreat.Abs.Run27
namespace Go.Proofs.YtpkcbdhjnnnkbaaGreat.Abs
theorem s27:PSpec Tryz.prog 27 (([]:List D).map .d) (.d (.bool true)):=Run27.s
end Go.Proofs.YtpkcbdhjnnnkbaaGreat.Abs



namespace Go.Proofs.YtpkcbdhjnnnkbaaGreat.Abs
open Go
open Go.ChangeShapes Go.WideShapes Go.ChangeAt Go.RowKit Go.WideElems
def Sof (w:World):Nat→Prop:=fun k=>k < w.heap.size
def RdC (w:World) (xs:List D) (cs:List Value):Prop:=cs.length=xs.length∧∀ (i:Nat) (x:D) (v:Value),xs[i]?=some x→cs[i]?=some v→Rd w (Sof w) x v
def D.cl:D→List D
 | .agg xs=>xs
 | x=>[x]
def D.ok1:D→Prop
 | .agg xs=>xs.all D.leaf=true
 | _=>True
theorem val_of {w:World} {x:D} {cs:List Value} (h:RdC w x.cl cs) (ho:x.ok1):∃ v:Value,v.cells.toList=cs∧Rd w (Sof w) x v:=by
 obtain ⟨h1,h2⟩:=h;by_cases hx:x.leaf=true
 ·have hc:x.cl=[x]:=by cases x <;> first | rfl | (simp [D.leaf] at hx)
  rw [hc] at h1 h2
  match cs,h1 with
  | [v],_=>
   have hr:=h2 0 x v rfl rfl;exact ⟨v,by rw [hr.leaf_cells hx],hr⟩
 ·cases x <;> simp [D.leaf] at hx
  rename_i xs;exact ⟨.agg cs.toArray,by simp [Value.cells],.agg xs cs ho h1 h2⟩
theorem rdC_one {w:World} {x:D} {v:Value} (h:Rd w (Sof w) x v):RdC w [x] [v]:=by
 refine ⟨rfl,fun i y u h1 h2=>?_⟩
 match i with
 | 0=>simp at h1 h2;subst h1;subst h2;exact h
 | i+1=>simp at h1
theorem rdC_nil {w:World} {cs:List Value} {o:Nat} (h:cs.length=o):RdC w [] (cs.drop o):=⟨by simp [h],fun i x v h=>by simp at h⟩
theorem rdC_cat {w:World} {xs ys:List D} {cs:List Value} {o n:Nat} (h1:RdC w xs ((cs.drop o).take n)) (hn:xs.length=n) (h2:RdC w ys (cs.drop (o+n))):RdC w (xs++ys) (cs.drop o):=by
 obtain ⟨a1,a2⟩:=h1;obtain ⟨b1,b2⟩:=h2;have hl:n≤(cs.drop o).length:=by simp at a1 ⊢;omega
 have he:cs.drop o=(cs.drop o).take n++cs.drop (o+n):=by rw [← List.drop_drop];exact (List.take_append_drop n _).symm
 refine ⟨by simp at b1 hl ⊢;omega,fun i x v hx hv=>?_⟩;rcases Nat.lt_or_ge i xs.length with h | h
 ·rw [List.getElem?_append_left h] at hx;exact a2 i x v hx (by rw [List.getElem?_take,if_pos (by omega)];exact hv)
 ·rw [List.getElem?_append_right h] at hx;refine b2 (i - xs.length) x v hx ?_;rw [List.getElem?_drop] at hv ⊢;rw [show o+n+(i - xs.length)=o+i by omega];exact hv
theorem list_of {α:Type} {Q:Nat→α→Prop}:∀ n,(∀ i,i < n→∃ a,Q i a)→∃ l:List α,l.length=n∧∀ i a,l[i]?=some a→Q i a
 | 0,_=>⟨[],rfl,by simp⟩
 | n+1,h=>by
  obtain ⟨l,h1,h2⟩:=list_of n fun i hi=>h i (by omega);obtain ⟨a,ha⟩:=h n (by omega);refine ⟨l++[a],by simp [h1],fun i b hb=>?_⟩;rcases Nat.lt_or_ge i l.length with hi | hi
  ·rw [List.getElem?_append_left hi] at hb;exact h2 i b hb
  ·rw [List.getElem?_append_right hi] at hb;have:i - l.length=0:=by
    rcases Nat.eq_zero_or_pos (i - l.length) with h' | h'
    ·exact h'
    ·rw [List.getElem?_eq_none (by simp;omega)] at hb;cases hb
   rw [this] at hb;simp at hb;subst hb;rw [show i=n by omega];exact ha
theorem mapM_some {α β:Type} {f:α→Option β}:∀ {l:List α} {r:List β},l.mapM f=some r→r.length=l.length∧∀ (i:Nat) (a:α),l[i]?=some a→f a=r[i]?
 | [],r,h=>by
  simp at h;subst h;exact ⟨rfl,by simp⟩
 | a :: l,r,h=>by
  rw [List.mapM_cons] at h;simp only [Option.bind_eq_bind,Option.bind_eq_some_iff,Option.pure_def,Option.some.injEq] at h;obtain ⟨b,hb,r',hr,rfl⟩:=h;obtain ⟨h1,h2⟩:=mapM_some hr;refine ⟨by simp [h1],fun i x hx=>?_⟩
  match i with
  | 0=>simp at hx;subst hx;simpa using hb
  | i+1=>simpa using h2 i x (by simpa using hx)
theorem cells_some {w:World} {b n:Nat} {a:Addr} {cs:List Value} (h:w.cells? b a n=some cs):cs.length=n∧∀ j,j < n→w.cell? (a.add j)=cs[j]?:=by
 unfold World.cells? at h;split at h
 ·obtain ⟨h1,h2⟩:=mapM_some h;rw [List.length_range] at h1;exact ⟨h1,fun j hj=>h2 j j (by rw [List.getElem?_range hj])⟩
 ·cases h
section
variable {H:Type} {enc:TypeId×Value→H} {P:Program} {w:World} {base fuel:Nat} {spare:Nat→Bool} {held:Bool} {t e:TypeId} {cs:List Value} {x:DataW H×List MemPlace}
def All2 {α:Type} (A:α→DataW H→Prop) (l:List α) (es:List (DataW H)):Prop:=l.length=es.length∧∀ (i:Nat) (a:α) (y:DataW H),l[i]?=some a→es[i]?=some y→A a y
def SlD {α:Type} (A:α→DataW H→Prop) (l:List α) (d:DataW H):Prop:=(d=.nil∧l=[])∨∃ es sp,d=.slice es sp∧All2 A l es
theorem rd_slice {α:Type} {z:Nat} (encA:α→D) (A:α→DataW H→Prop) (hu:P.underlying t=some (.slice e)) (hz:P.cellsOf e=z) (hz0:0 < z) (hzA:∀ a,(encA a).cl.length=z) (hok:∀ a,(encA a).ok1)
    (h:DataW.trod enc P w base spare held fuel t cs=some x)
    (he:∀ n cs x,n < fuel→DataW.trod enc P w base spare held n e cs=some x→∃ a,RdC w (encA a).cl cs∧A a x.1) :
    ∃ l:List α,RdC w [.sl z (l.map encA)] cs∧SlD A l x.1:=by
  rcases DataW.trod_slice hu h with ⟨rfl,rfl⟩ | ⟨a,len,cap,elems,rest,n,hf,rfl,rfl,hb,hlc,hcm,hlen,hel,_⟩
  · exact ⟨[],rdC_one (.emp _ _ _ (by omega)),.inl ⟨rfl,rfl⟩⟩
  · rw [hz] at hel;have key:∀ i,i < len→∃ p:α×Value,(∃ cs',w.cells? base (a.add (i * z)) z=some cs'∧p.2.cells.toList=cs')∧Rd w (Sof w) (encA p.1) p.2∧∀ y,elems[i]?=some y→A p.1 y.1:=by
      intro i hi;have h1:=hel i hi;rw [List.getElem?_eq_getElem (by omega)] at h1;obtain ⟨cs',h2,h3⟩:=Option.bind_eq_some_iff.1 h1;obtain ⟨b,h4,h5⟩:=he n cs' _ (by omega) h3;obtain ⟨v,h6,h7⟩:=val_of h4 (hok b);refine ⟨(b,v),⟨cs',h2,h6⟩,h7,fun y hy=>?_⟩;rw [List.getElem?_eq_getElem (by omega)] at hy;injection hy with hy;rw [← hy];exact h5
    obtain ⟨l,hl1,hl2⟩:=list_of len key;refine ⟨l.map (·.1),?_,.inr ⟨_,_,rfl,by simp [hl1,hlen],fun i b y hb' hy=>?_⟩⟩
    · refine rdC_one ?_;rcases Nat.eq_zero_or_pos len with h0 | h0
      · have:l=[]:=List.eq_nil_of_length_eq_zero (by omega);subst this;subst h0;exact .emp _ _ _ (by simpa [maxLen] using hcm)
      · have hS:Sof w a.block:=by
          obtain ⟨p,⟨cs',h1,_⟩,_⟩:=key 0 h0;obtain ⟨h2,h3⟩:=cells_some h1;have h4:=h3 0 hz0;rw [List.getElem?_eq_getElem (by omega)] at h4;have:=World.block_lt_of_cell? w _ h4
          rwa [add_block,add_block] at this
        have hlm:((l.map (·.1)).map encA).length=len:=by simp [hl1]
        rw [← hlm];refine .sl z _ a cap (l.map (·.2)) (by omega) (by simpa [maxLen] using hcm) hS (by simp [hl1]) (fun i y v hy hv=>?_) (fun i v hv=>?_) (fun i j v u hv hu'=>?_)
        · rw [List.getElem?_map,List.getElem?_map] at hy;rw [List.getElem?_map] at hv;cases hp:l[i]? with
          | none=>rw [hp] at hv;cases hv
          | some p=>
            rw [hp] at hy hv;simp at hy hv;subst hy;subst hv;exact (hl2 i p hp).2.1
        · rw [List.getElem?_map] at hv;obtain ⟨p,hp,rfl⟩:=Option.map_eq_some_iff.1 hv;obtain ⟨⟨cs',h1,h2⟩,_,_⟩:=hl2 i p hp;have:=(cells_some h1).1;rw [← h2] at this;simpa using this
        · rw [List.getElem?_map] at hv;obtain ⟨p,hp,rfl⟩:=Option.map_eq_some_iff.1 hv;obtain ⟨⟨cs',h1,h2⟩,_,_⟩:=hl2 i p hp;obtain ⟨h3,h4⟩:=cells_some h1;have hj:j < p.2.cells.size:=(Array.getElem?_eq_some_iff.1 hu').1;have hjz:j < z:=by
            rw [← h2] at h3;simp at h3;omega
          have h5:=h4 j hjz;rw [Addr_add_add] at h5;rw [h5,← h2];simpa using hu'
    · rw [List.getElem?_map] at hb' hy;obtain ⟨p,hp,rfl⟩:=Option.map_eq_some_iff.1 hb';obtain ⟨q,hq,rfl⟩:=Option.map_eq_some_iff.1 hy;exact (hl2 i p hp).2.2 q hq
theorem rd_int {k:IntKind} (hu:P.underlying t=some (.int k)) (h:DataW.trod enc P w base spare held fuel t cs=some x):∃ n,RdC w [.int k n] cs∧x.1=.lit (.int k n)∧(Lit.int k n).wf=true:=by
 obtain ⟨n,rfl,rfl,hw⟩:=DataW.trod_int hu h;exact ⟨n,rdC_one (.int _ _),rfl,hw⟩
theorem rd_str (hu:P.underlying t=some .string) (h:DataW.trod enc P w base spare held fuel t cs=some x):∃ s:List UInt8,RdC w [.str s] cs∧x.1=.lit (.string s):=by
 obtain ⟨s,rfl,rfl,hs⟩:=DataW.trod_string hu h;refine ⟨s.data.toList,rdC_one ?_,rfl⟩;have he:(⟨s.data.toList.toArray⟩:ByteArray)=s:=by
  apply ByteArray.ext;simp
 have:=Rd.str (w:=w) (S:=Sof w) s.data.toList (by
  have hl:s.data.toList.length=s.size:=by rw [Array.length_toList];rfl
  unfold maxLen at hs;omega)
 rwa [he] at this
theorem rd_struct {i:TI} {fs:List (Nat×Nat)} (hT:TOk P t i) (hk:i.k=.struct fs) (h:DataW.trod enc P w base spare held fuel t cs=some x) :
    ∃ (xs:List (DataW H×List MemPlace)) (n:Nat),n < fuel∧x.1=.agg (xs.map (·.1))∧cs.length=P.cellsOf t∧xs.length=fs.length∧
      ∀ (i:Nat) (f:Nat×Nat),fs[i]?=some f→DataW.trod enc P w base spare held n f.2 ((cs.drop f.1).take (P.cellsOf f.2))=xs[i]?:=by
  obtain ⟨F,hF,rfl,_⟩:=hT.struct hk;obtain ⟨xs,n,hf,hx,hl,hlen,hfs⟩:=DataW.trod_struct hF h;refine ⟨xs,n,by omega,by rw [hx],hl,by simp [hlen],fun j f hj=>?_⟩;rw [List.getElem?_map] at hj;obtain ⟨g,hg,rfl⟩:=Option.map_eq_some_iff.1 hj;exact hfs j g (by simpa using hg)
theorem wf_i64 {n:Int} (h:(Lit.int .i64 n).wf=true):-9223372036854775808≤n∧n≤9223372036854775807:=bounds_i64 h
end
theorem rdv_struct {P:Program} {w W:World} {r:Reach} {base:Nat} {t:TypeId} {i:TI} {fs:List (Nat×Nat)} {x:D} {v:Value} (h:Value.okWide P W r base t v) (hT:TOk P t i) (hk:i.k=.struct fs) (hc:RdC w x.cl v.cells.toList) (hl:x=.agg x.cl) (ho:x.ok1):Rd w (Sof w) x v:=by
 obtain ⟨F,hF,_,_⟩:=hT.struct hk;unfold Value.okWide at h;rw [hF] at h;obtain ⟨cs,rfl,_,_⟩:=h;rw [hl] at hc ho ⊢;have:cs=cs.toList.toArray:=by simp
 rw [this];exact .agg _ _ ho (by simpa [Value.cells,D.cl] using hc.1) (fun j y u h1 h2=>hc.2 j y u (by simpa [D.cl] using h1) (by simpa [Value.cells] using h2))
theorem rdv_one {P:Program} {w W:World} {r:Reach} {base:Nat} {t:TypeId} {i:TI} {x:D} {v:Value} (h:Value.okWide P W r base t v) (hT:TOk P t i) (hk:i.k.agg=false) (hc:RdC w [x] v.cells.toList):Rd w (Sof w) x v:=by
 have hne:∀ cs,v≠.agg cs:=by
  rintro cs rfl;have hk2:=hT.k;unfold tkOf at hk2;unfold Value.okWide Cell.okWide Cell.ok at h;cases hu:P.underlying t with
  | none=>rw [hu] at h;simp at h
  | some d=>
   rw [hu] at h hk2;cases d <;> simp at h hk2
   all_goals first
    | (rw [← hk2] at hk;cases hk)
    | (rw [← hk2.2] at hk;cases hk)
 have hv:v.cells=#[v]:=by
  cases v <;> first | rfl | exact absurd rfl (hne _)
 rw [hv] at hc;exact hc.2 0 x v rfl rfl
section
variable {H:Type} {enc:TypeId×Value→H} {P:Program}
theorem post_of_below {f:Func} {s:ChangeSpec} {apart fresh handsOn again:Bool} {W W':World} {args:Array Value} {v:Value} {ds gs:List (DataW H)} {before pa pv:List MemPlace}
    (hW:DataW.Whole enc P f.params.toList s.vars apart W args.toList ds gs before)
    (hres:∀ (b:Nat) (sp:Nat→Bool) (hd:Bool),DataW.TrodAll enc P W' b sp hd f.resultTypes.toList (v.resultList f.resultTypes.size) (s.fn H (ds++gs)).results [])
    (hargs:∀ sp:Nat→Bool,(∀ p∈before,sp p.block=true)→DataW.TrodAll enc P W' 0 sp true f.params.toList args.toList (s.fn H (ds++gs)).args pa)
    (hvars:∀ sp:Nat→Bool,(∀ p∈before,sp p.block=true)→DataW.TrodVars enc P W' sp s.vars (s.fn H (ds++gs)).vars pv)
    (hps:before=pa++pv) (hb:Below W.heap.size W W')
    (hok:∀ (j:Nat) (t:TypeId) (r:Value),f.resultTypes[j]?=some t→(v.resultList f.resultTypes.size)[j]?=some r→Value.okWide P W' .any 0 t r) :
    s.post enc P f apart fresh handsOn again W args v W':=by
  have hlt:∀ p∈before,p.block < W.heap.size:=fun p hp=>hW.lt p hp;have hold:∀ p∈before,(fun b=>decide (b < W.heap.size)) p.block=true:=fun p hp=>by simpa using hlt p hp
  refine ⟨ds,gs,before,[],pa,pv,hW,hres _ _ _,hargs _ hold,hvars _ hold,World.keptBut_mono (fun p hp=>⟨hp,?_⟩) (hb.frame (·∈before)),fun _=>?_⟩
  · rw [hps,List.mem_append] at hp;exact Or.inr hp
  · obtain ⟨_,_,_,_,_,hz,hn⟩:=hW;refine ⟨hok,_,_,([]++pa)++pv,⟨[]++pa,pv,trodAll_append (hargs _ (fun _ _=>rfl)) (hres _ _ _),hvars _ (fun _ _=>rfl),rfl,?_,?_⟩,?_⟩
    · intro b off hp;have hin:MemPlace.cell b off∈before:=by rw [hps];simpa using hp
      rw [hb.frozen (hlt _ hin)];exact hz b off hin
    · intro ha;have:=hn ha;rw [hps] at this;simpa using this
    · intro p hp _;rw [hps];simpa using hp
theorem trodAll_stays (hl:laidOutB P=true) {W W':World} (hb:Below W.heap.size W W'):∀ {ts:List TypeId} {vs:List Value} {ds:List (DataW H)} {ps:List MemPlace} {sp:Nat→Bool},(ts.all fun t=>P.readableRec t && decide (t < P.types.size))=true→
    DataW.TrodAll enc P W 0 (fun _=>true) true ts vs ds ps→(∀ p∈ps,sp p.block=true)→(∀ p∈ps,p.block < W.heap.size)→DataW.TrodAll enc P W' 0 sp true ts vs ds ps
  | [],vs,ds,ps,sp,_,h,_,_=>by
    obtain ⟨rfl,rfl,rfl⟩:=trodAll_nil h;rfl
  | t :: ts,vs,ds,ps,sp,ht,h,hs,hlt=>by
    obtain ⟨v,vs',d,ds',p,q,rfl,rfl,rfl,h1,h2⟩:=trodAll_cons h;simp only [List.all_cons,Bool.and_eq_true,decide_eq_true_eq] at ht;exact trodAll_cons_mk (Trod_stays hl ht.1.1 ht.1.2 h1 (fun x hx=>hb.same (hlt x (by simp [hx]))) fun x hx=>hs x (by simp [hx])) (trodAll_stays hl hb ht.2 h2 (fun x hx=>hs x (by simp [hx])) fun x hx=>hlt x (by simp [hx]))
theorem calls_of_spec {f : FuncId} {fn : Func} {W : World} {vs : List Value} {ds : List D} (hfn : P.funcs[f]? = some fn) (hbody : fn.body.isSome = true) (hname : (fn.name == "runtime.NumGoroutine") = false) (h : PSpec P f (ds.map .d) (.d (.bool true))) (hr : vs.length = ds.length ∧ ∀ (i : Nat) (x : D) (v : Value), ds[i]? = some x → vs[i]? = some v → Rd W (Sof W) x v) :
    Calls P f vs.toArray W fun e W'=>e=.returned (.bool true)∧Below W.heap.size W W':=by
  have hsto:Sto W (Sof W) (fun _=>undef) (fun _=>none) 0:=⟨fun k hk=>hk,by simp,by simp,by simp,by simp,by simp,by simp⟩;have hd:=h (fun _=>none) 0 W (Sof W) (fun _=>undef) vs hsto (by simp [hr.1]) (fun i c v hc hv=>by
    rw [List.getElem?_map] at hc;obtain ⟨x,hx,rfl⟩:=Option.map_eq_some_iff.1 hc;exact .d _ _ (hr.2 i x v hx hv)) (lts_of fun i c hc=>by
      rw [List.getElem?_map] at hc;obtain ⟨x,hx,rfl⟩:=Option.map_eq_some_iff.1 hc;trivial)
  obtain ⟨b,hb⟩:=Option.isSome_iff_exists.1 hbody;have hcf:(callFunc f vs.toArray).run P W=.ok (.enter f vs.toArray) W:=by
    simp only [beq_eq_false_iff_ne,ne_eq] at hname;simp [callFunc,hfn,hb,hname]
  unfold Does at hd;rw [hcf] at hd;refine hd.mono ?_;rintro e W' ⟨v,rfl,r,o',nk',S',γ',⟨rfl,rfl,rfl⟩,hs,ht,hsr,hl⟩;refine ⟨?_,ht.os,ht.tape,ht.output,ht.size,fun k hk=>ht.kept k hk ?_⟩
  · cases hsr with
    | d _ _ hrd=>cases hrd;rfl
  · rintro ⟨t,y,hy,_⟩;cases hy
end
end Go.Proofs.YtpkcbdhjnnnkbaaGreat.Abs

namespace Go.Proofs.YtpkcbdhjnnnkbaaGreat.Abs
open Go
section
variable {H:Type} {enc:TypeId×Value→H} {w:World} {base fuel:Nat} {spare:Nat→Bool} {held:Bool} {cs:List Value} {x:DataW H×List MemPlace}
theorem cells_of {P:Program} {t:TypeId} {i:TI} (h:TOk P t i):P.cellsOf t=i.sz:=by
 have:=h.s;unfold Program.cellsOf;cases hq:P.info? t with
 | none=>rw [hq] at this;cases this
 | some q=>rw [hq] at this;simp at this;simp [this.1]
def AStr (s:Str) (d:DataW H):Prop:=d=.lit (.string s)
def AVal (v:Val) (d:DataW H):Prop:=rngV v∧szV v≤Rows.uptoBulk d
def ADlt (v:Dlt) (d:DataW H):Prop:=rngV v.value∧szV v.value+szN v.path≤Rows.uptoBulk d
theorem all2_cons {α:Type} {A:α→DataW H→Prop} {a:α} {l:List α} {es:List (DataW H)} (h:All2 A (a :: l) es):∃ y ys,es=y :: ys∧A a y∧All2 A l ys:=by
 obtain ⟨h1,h2⟩:=h;cases es with
 | nil=>simp at h1
 | cons y ys=>exact ⟨y,ys,rfl,h2 0 a y rfl rfl,by simpa using h1,fun i b z hb hz=>h2 (i+1) b z (by simpa using hb) (by simpa using hz)⟩
theorem szN_bulk:∀ {l:List Str} {es:List (DataW H)},All2 AStr l es→szN l≤Rows.uptoBulkAll es
 | [],es,_=>by simp [szN]
 | s :: l,es,h=>by
  obtain ⟨y,ys,rfl,h1,h2⟩:=all2_cons h;have:=szN_bulk h2;unfold AStr at h1;subst h1;simp only [szN,Rows.uptoBulkAll,Rows.uptoBulk];omega
theorem szVs_bulk:∀ {l:List Val} {es:List (DataW H)},All2 AVal l es→rngVs l∧szVs l≤Rows.uptoBulkAll es
 | [],es,_=>by simp [szVs,rngVs]
 | s :: l,es,h=>by
  obtain ⟨y,ys,rfl,h1,h2⟩:=all2_cons h;have:=szVs_bulk h2;simp only [szVs,rngVs,Rows.uptoBulkAll];exact ⟨⟨h1.1,this.1⟩,by have:=h1.2;omega⟩
theorem bulk_sl {α:Type} {A:α→DataW H→Prop} {l:List α} {d:DataW H} {n:Nat} (h:SlD A l d) (h0:l=[]→n=0) (h1:∀ es,All2 A l es→n≤Rows.uptoBulkAll es):n+1≤Rows.uptoBulk d:=by
 rcases h with ⟨rfl,h⟩ | ⟨es,sp,rfl,h⟩
 ·have:=h0 h;simp [Rows.uptoBulk,this]
 ·have:=h1 es h;simp only [Rows.uptoBulk];omega
theorem open_strs (h:DataW.trod enc Tryz.prog w base spare held fuel 22 cs=some x):∃ l:List Str,RdC w [.sl 1 (l.map .str)] cs∧SlD AStr l x.1:=
 rd_slice (z:=1) D.str AStr ((tabOk 22 _ th22).slice rfl) (cells_of (tabOk 9 _ th9)) (by decide) (fun _=>rfl) (fun _=>trivial) h fun n cs x _ h=>by
  obtain ⟨s,h1,h2⟩:=rd_str ((tabOk 9 _ th9).str rfl) h;exact ⟨s,h1,h2⟩
theorem open_val:∀ (fuel:Nat) (cs:List Value) (x:DataW H×List MemPlace),DataW.trod enc Tryz.prog w base spare held fuel 27 cs=some x→∃ v:Val,RdC w (valCells v) cs∧AVal v x.1:=by
 intro fuel
 induction fuel using Nat.strongRecOn with
 | _ fuel ih=>
  intro cs x h;obtain ⟨ys,n,hn,hx,hl,hyl,hf⟩:=rd_struct (tabOk 27 _ th27) rfl h
  match ys,hyl with
  | [y0,y1,y2,y3,y4],_=>
   have c1:=cells_of (tabOk 3 _ th3);have c9:=cells_of (tabOk 9 _ th9);have c25:=cells_of (tabOk 25 _ th25);have c22:=cells_of (tabOk 22 _ th22);have c27:=cells_of (tabOk 27 _ th27);have f0:=hf 0 (0,3) rfl;have f1:=hf 1 (1,3) rfl;have f2:=hf 2 (2,9) rfl;have f3:=hf 3 (3,25) rfl;have f4:=hf 4 (4,22) rfl;rw [c1] at f0 f1;rw [c9] at f2;rw [c25] at f3;rw [c22] at f4;rw [c27] at hl;obtain ⟨k,k1,k2,k3⟩:=rd_int ((tabOk 3 _ th3).int rfl) (x:=y0) f0;obtain ⟨i,i1,i2,i3⟩:=rd_int ((tabOk 3 _ th3).int rfl) (x:=y1) f1;obtain ⟨s,s1,s2⟩:=rd_str ((tabOk 9 _ th9).str rfl) (x:=y2) f2;obtain ⟨vs,v1,v2⟩:=rd_slice (z:=5) encV AVal ((tabOk 25 _ th25).slice rfl) c27 (by decide) (fun a=>by rw [encV_eq];rfl) (fun a=>by rw [encV_eq];rfl) (x:=y3) f3 fun m cs x hm h=>by
    obtain ⟨v,h1,h2⟩:=ih m (by omega) cs x h;exact ⟨v,by rw [encV_eq];exact h1,h2⟩
   obtain ⟨ns,n1,n2⟩:=open_strs (x:=y4) f4;refine ⟨.mk k i s vs ns,?_,?_⟩
   ·have:=rdC_cat (cs:=cs) (o:=0) (n:=1) k1 rfl (rdC_cat (n:=1) i1 rfl (rdC_cat (n:=1) s1 rfl (rdC_cat (n:=1) v1 rfl (rdC_cat (n:=1) n1 rfl (rdC_nil hl)))));simpa [valCells,Val.kind,Val.int,Val.text,Val.items,Val.names,encVs_map] using this
   ·have b3:rngVs vs∧szVs vs+1≤Rows.uptoBulk y3.1:=by
     refine ⟨?_,bulk_sl v2 (fun h=>by rw [h];rfl) fun es h=>(szVs_bulk h).2⟩;rcases v2 with ⟨_,rfl⟩ | ⟨es,sp,_,h⟩
     ·trivial
     ·exact (szVs_bulk h).1
    have b4:=bulk_sl n2 (n:=szN ns) (fun h=>by rw [h];rfl) fun es h=>szN_bulk h;refine ⟨⟨wf_i64 i3,b3.1⟩,?_⟩;rw [hx];simp only [List.map_cons,List.map_nil,Rows.uptoBulk,Rows.uptoBulkAll,k2,i2,s2,szV];omega
theorem open_dlt (h:DataW.trod enc Tryz.prog w base spare held fuel 83 cs=some x):∃ d:Dlt,RdC w (encD d).cl cs∧ADlt d x.1:=by
 obtain ⟨ys,n,hn,hx,hl,hyl,hf⟩:=rd_struct (tabOk 83 _ th83) rfl h
 match ys,hyl with
 | [y0,y1,y2,y3],_=>
  have f0:=hf 0 (0,3) rfl;have f1:=hf 1 (1,22) rfl;have f2:=hf 2 (2,27) rfl;have f3:=hf 3 (7,3) rfl;rw [cells_of (tabOk 3 _ th3)] at f0 f3;rw [cells_of (tabOk 22 _ th22)] at f1;rw [cells_of (tabOk 27 _ th27)] at f2;rw [cells_of (tabOk 83 _ th83)] at hl;obtain ⟨k,k1,k2,k3⟩:=rd_int ((tabOk 3 _ th3).int rfl) (x:=y0) f0;obtain ⟨p,p1,p2⟩:=open_strs (x:=y1) f1;obtain ⟨v,v1,v2⟩:=open_val n _ y2 f2;obtain ⟨m,m1,m2,m3⟩:=rd_int ((tabOk 3 _ th3).int rfl) (x:=y3) f3;refine ⟨⟨k,p,v,m⟩,?_,v2.1,?_⟩
  ·have:=rdC_cat (cs:=cs) (o:=0) (n:=1) k1 rfl (rdC_cat (n:=1) p1 rfl (rdC_cat (n:=5) v1 rfl (rdC_cat (n:=1) m1 rfl (rdC_nil hl))));simpa [encD,D.cl,valCells] using this
  ·have b1:=bulk_sl p2 (n:=szN p) (fun h=>by rw [h];rfl) fun es h=>szN_bulk h;have b2:=v2.2;rw [hx];simp only [List.map_cons,List.map_nil,Rows.uptoBulk,Rows.uptoBulkAll,k2,m2];omega
theorem open_dlts (h:DataW.trod enc Tryz.prog w base spare held fuel 28 cs=some x):∃ l:List Dlt,RdC w [.sl 8 (l.map encD)] cs∧SlD ADlt l x.1:=
 rd_slice (z:=8) encD ADlt ((tabOk 28 _ th28).slice rfl) (cells_of (tabOk 83 _ th83)) (by decide) (fun _=>rfl) (fun _=>rfl) h fun n cs x _ h=>open_dlt h
def szDs:List Dlt→Nat
 | []=>0
 | d :: r=>szV d.value+szN d.path+szDs r
theorem szDs_bulk:∀ {l:List Dlt} {es:List (DataW H)},All2 ADlt l es→szDs l≤Rows.uptoBulkAll es∧∀ d∈l,rngV d.value
 | [],es,_=>by simp [szDs]
 | s :: l,es,h=>by
  obtain ⟨y,ys,rfl,h1,h2⟩:=all2_cons h;have:=szDs_bulk h2;simp only [szDs,Rows.uptoBulkAll];refine ⟨by have:=h1.2;omega,fun d hd=>?_⟩;rcases List.mem_cons.1 hd with rfl | hd
  ·exact h1.1
  ·exact this.2 d hd
theorem szDs_mem {l:List Dlt} {d:Dlt} (h:d∈l):szV d.value+szN d.path≤szDs l:=by
 induction l with
 | nil=>cases h
 | cons a l ih=>
  simp only [szDs];rcases List.mem_cons.1 h with rfl | h
  ·omega
  ·have:=ih h;omega
theorem dlts_all {l:List Dlt} {d:DataW H} (h:SlD ADlt l d):szDs l+1≤Rows.uptoBulk d∧∀ x∈l,rngV x.value:=by
 refine ⟨bulk_sl h (fun h=>by rw [h];rfl) fun es h=>(szDs_bulk h).1,?_⟩;rcases h with ⟨_,rfl⟩ | ⟨es,sp,_,h⟩
 ·simp
 ·exact (szDs_bulk h).2
def I64 (n:Int):Prop:=-9223372036854775808≤n∧n≤9223372036854775807
structure AEtr (e:Etr) (d:DataW H):Prop where
 rt:I64 e.term
 rk:I64 e.kind
 rs:I64 e.session
 rn:I64 e.number
 ri:rngV e.id
 rd:rngV e.doc
 rl:∀ x∈e.deltas,rngV x.value
 sz:szV e.id+szV e.doc+szDs e.deltas+e.coll.length+e.to.length+1≤Rows.uptoBulk d
structure AFlt (f:Flt) (d:DataW H):Prop where
 rk:I64 f.kinds
 sz:f.coll.length+szN f.path≤Rows.uptoBulk d
end
end Go.Proofs.YtpkcbdhjnnnkbaaGreat.Abs



namespace Go.Proofs.YtpkcbdhjnnnkbaaGreat.Abs
open Go
def WSpec (P:Program) (f:FuncId) (args:SV→List SV) (e z:Nat) (xs xs':List D):Prop:=
 ∀ (o:Nat→Option AO) (nk:Nat) (x:SV) (q:Option Nat),dstOf o e z x=some (q,xs)→Spec P f (args x) o nk fun r o' nk'=>r=.row nk∧o'=upd (killo o q) nk (some (.row e z xs'))∧nk'=nk+1
theorem wk_newK {o:Nat→Option AO} {nk:Nat} {x:AO} (hx:∀ m,x.lt m) {o':Nat→Option AO} {q:Nat} (h1:nk≤q) (h3:o' q=some x) (h4:∀ t y,o t=some y→o' t=some y)
    (hlt:∀ t y,o t=some y→t < nk∧y.lt nk) (hr:∀ τ,x.ren τ=x) (hid:∀ t y,o t=some y→∀ τ:Nat→Nat,(∀ u,u < nk→τ u=u)→y.ren τ=y):Wko nk (fun t=>if t=nk then q else t) o' (upd o nk (some x)) (nk+1):=by
  refine ⟨by omega,fun t y hy=>?_,fun t t' y y' hy hy' e=>?_,fun t y ht _=>if_neg (by omega)⟩
  · unfold upd at hy;split at hy
    · rename_i he;subst he;injection hy with hy;subst hy;exact ⟨by omega,by simp only [if_true,h3,hr],hx _⟩
    · rename_i hne;obtain ⟨h5,h6⟩:=hlt t y hy;refine ⟨by omega,?_,?_⟩
      · rw [if_neg hne,h4 t y hy,hid t y hy _ fun u hu=>if_neg (by omega)]
      · cases y with
        | box cs=>exact SV.lts_mono (by omega) h6
        | row=>trivial
        | raw=>trivial
  · have key:∀ t y,upd o nk (some x) t=some y→t=nk∨t < nk:=fun t y hy=>by
      unfold upd at hy;split at hy
      · rename_i he;exact .inl he
      · exact .inr (hlt t y hy).1
    have k1:=key t y hy;have k2:=key t' y' hy';by_cases ht:t=nk
    · by_cases ht':t'=nk
      · rw [ht,ht']
      · rw [if_pos ht,if_neg ht'] at e;omega
    · by_cases ht':t'=nk
      · rw [if_neg ht,if_pos ht'] at e;omega
      · rw [if_neg ht,if_neg ht'] at e;exact e
theorem Spec.newRowK {P:Program} {f:FuncId} {args:List SV} {o:Nat→Option AO} {nk:Nat} {q:Option Nat} {e z:Nat} {xs:List D}
    (h:Spec P f args o nk fun r o' nk'=>∃ p,r=.row p∧nk≤p∧p < nk'∧o' p=some (.row e z xs)∧∀ t,t < nk∧q≠some t→o' t=o t) :
    Spec P f args o nk fun r o' nk'=>r=.row nk∧o'=upd (killo o q) nk (some (.row e z xs))∧nk'=nk+1:=by
  intro w S γ vs h1 h2 h3 h4;refine (h w S γ vs h1 h2 h3 h4).mono ?_;rintro v w' ⟨r,o',nk',S',γ',⟨p,rfl,k1,k2,k3,k4⟩,hs,ht,hr,hl⟩;have hlt:∀ t y,killo o q t=some y→t < nk∧y.lt nk:=fun t y hy=>by
    have hy:=(killo_some hy).1;refine ⟨h1.o_lt t y hy,?_⟩;cases y with
    | box cs=>exact (h1.box t cs hy).2
    | row=>trivial
    | raw=>trivial
  have hid:∀ t y,killo o q t=some y→∀ τ:Nat→Nat,(∀ u,u < nk→τ u=u)→y.ren τ=y:=fun t y hy τ hτ=>by
    have hy:=(killo_some hy).1;cases y with
    | box cs=>simp only [AO.ren];rw [SV.rens_lt hτ (h1.box t cs hy).2]
    | row=>rfl
    | raw=>rfl
  have hk:Wko nk (fun t=>if t=nk then p else t) o' (upd (killo o q) nk (some (.row e z xs))) (nk+1):=wk_newK (x:=.row e z xs) (fun _=>trivial) k1 k3 (fun t y hy=>by rw [k4 t ⟨(hlt t y hy).1,(killo_some hy).2⟩];exact (killo_some hy).1) hlt (fun _=>rfl) hid;refine ⟨.row nk,_,_,S',γ' ∘ _,⟨rfl,rfl,rfl⟩,hk.sto hs,hk.tr ht,hr.of_ren (fun t x hx=>(hk.o t x hx).2.1) (.row nk) ?_,Nat.lt_succ_self _⟩;simp [SV.ren]
theorem dst_lt {w:World} {S:Nat→Prop} {γ:Nat→Value} {o:Nat→Option AO} {nk e z:Nat} {x:SV} {q:Option Nat} {xs:List D} (h:Sto w S γ o nk) (hd:dstOf o e z x=some (q,xs)):∀ t,q=some t→t < nk:=fun t ht=>by
 rcases dst_two hd with ⟨_,rfl,_⟩ | ⟨t2,_,rfl,h2⟩
 ·cases ht
 ·cases ht;exact h.o_lt _ _ h2
theorem WSpec.of {P:Program} {f:FuncId} {n:Nat} {ts:List Nat} {c:Code} {args:SV→List SV} {e z:Nat} {xs xs':List D} (hf:FnOk P f n ts c) (hn:∀ x,(args x).length≤n)
    (h:∀ o nk x q,dstOf o e z x=some (q,xs)→(∀ t,q=some t→t < nk)→WP P n nk c ⟨slots (args x),o,nk⟩ (retQ ts fun r o' nk'=>∃ p,r=.row p∧nk≤p∧p < nk'∧o' p=some (.row e z xs')∧∀ t,t < nk∧q≠some t→o' t=o t)):WSpec P f args e z xs xs':=
  fun o nk x q hd=>Spec.newRowK fun w S γ vs h1 h2 h3 h4=>Spec.of_body hf (hn x) (h o nk x q hd (dst_lt h1 hd)) w S γ vs h1 h2 h3 h4
theorem rrow_okx {ts:List Nat} {sl:Nat→SV} {o o0:Nat→Option AO} {nk nk0 q e z:Nat} {xs xs':List D} (h1:resOf ts ⟨sl,o,nk⟩=.row q) (h2:nk0≤q) (h3:q < nk) (h5:o q=some (.row e z xs)) (h4:∀ t,t < nk0→o t=o0 t) (hx:xs=xs') :
 retQ ts (fun r o' nk'=>∃ q,r=.row q∧nk0≤q∧q < nk'∧o' q=some (.row e z xs')∧∀ t,t < nk0→o' t=o0 t) .ret ⟨sl,o,nk⟩:=⟨q,h1,h2,h3,hx ▸ h5,h4⟩
section
variable {P:Program} {Θ:Tab} {K:SV→(Nat→Option AO)→Nat→Prop} {sl:Nat→SV} {o:Nat→Option AO} {nk:Nat}
variable {x y:Operand} {t e:Nat}
end
section
variable {P:Program} {Θ:Tab} {ops:Array Oper} {K:St→Prop} {r:List Oper} {sl:Nat→SV} {d ty j lo m nk nk':Nat} {o o':Nat→Option AO} {op:Op} {pos:String} {af:Array Edge} {want c:Bool} {v:SV} {L:List Ob} {ks:List Kd}
end
def b8 (k:Int):UInt8:=UInt8.ofNat (k % 256).toNat
def txtC (t:Str):Str:=grp (u64 t.length)++t
mutual
def codV:Val→Str
 | .mk k i t xs ns=>b8 k :: (if k=1 then [] else if k=2 then [b8 i] else if k=3 then grp (zigN i) else if k=4∨k=5 then txtC t else grp (u64 xs.length)++codVs (decide (k=7)) xs ns)
def codVs (doc:Bool):List Val→List Str→Str
 | [],_=>[]
 | x :: xs,ns=>(if doc=true then txtC (ns.headD []) else [])++codV x++codVs doc xs ns.tail
end
theorem may7k {k i:Int} {t:Str} {xs:List Val} {ns:List Str} (h:mayV (.mk k i t xs ns)=true) (hk:k=7):ns.length=xs.length:=by subst hk;exact may7 h
theorem checkD_len {l:List Dlt} (h:checkD l=0):l.length≤64:=by
 unfold checkD at h;split at h
 ·cases h
 ·omega
theorem rv {P:Program} {f:FuncId} {v:Val} {c:SV} {e z:Nat} {xs:List D} (h:RSpec P f [c,.d (encV v)] e z xs):RSpec P f [c,.d (.agg (valCells v))] e z xs:=encV_eq v ▸ h
def hsB (k:Int) (bit:Int):Bool:=decide (bitsOf .and .i64 (if fieldsV k < 0 then 0 else fieldsV k) bit≠0)
structure EOk (e:Etr):Prop where
 k:1≤e.kind∧e.kind≤7
 t:0≤e.term∧e.term≤1099511627776
 s:0≤e.session∧e.session≤255
 n:0≤e.number∧e.number≤1099511627776
 c:(hsB e.kind 1=true→e.coll.length≤32)∧(¬ hsB e.kind 1=true→e.coll=[])
 o:(hsB e.kind 2=true→e.to.length≤32)∧(¬ hsB e.kind 2=true→e.to=[])
 i:(hsB e.kind 4=true→checkV e.id=0)∧(¬ hsB e.kind 4=true→noneV e.id=true)
 d:(hsB e.kind 8=true→checkV e.doc=0)∧(¬ hsB e.kind 8=true→noneV e.doc=true)
 l:(hsB e.kind 16=true→checkD e.deltas=0)∧(¬ hsB e.kind 16=true→e.deltas=[])
structure OkF (f:Flt):Prop where
 lo:-9223372036854775808≤f.kinds
 hi:f.kinds≤9223372036854775807
theorem o_ia_G {P:Program} {Θ:Tab} {K:SV→(Nat→Option AO)→Nat→Prop} {sl:Nat→SV} {o:Nat→Option AO} {nk:Nat} {x ix:Operand} {t e:Nat} {α:Type} {i j:TI} {z:Nat} {xs:List α} {g:α→D} {k:IntKind} {m:Nat} (d0:α) (hx:ev sl x=.d (.sl z (xs.map g))) (hy:ev sl ix=.d (.int k (m:Int))) (hi:Θ t=some i) (hk:i.k=.slice e) (hj:Θ e=some j) (hz:z=j.sz) (hlt:m < xs.length) (h:K (.el (g (xs.getD m d0))) o nk):vOp P Θ (.indexAddr t x ix) ⟨sl,o,nk⟩ K:=o_ia_mapG d0 hx hy hi hk hj hz hlt h
instance:Inhabited Dlt:=⟨⟨0,[],zeroV,0⟩⟩
mutual
def nodesN:Val→Nat→Nat
 | .mk _ _ _ xs ns,d=>if 40 < d then 1048576 else nodesL xs d (1+ns.length)
def nodesL:List Val→Nat→Nat→Nat
 | [],_,n=>n
 | x :: xs,d,n=>if n < 65536 then nodesL xs d (n+nodesN x (d+1)) else n
end
mutual
theorem nodesN_le:∀ (v:Val) (d:Nat),nodesN v d≤1048576 * szV v
 | .mk k i t xs ns,d=>by
  have h1:=nodesL_le xs d (1+ns.length);have h2:=szN_len ns;simp only [nodesN,szV];split <;> omega
theorem nodesL_le:∀ (xs:List Val) (d n:Nat),nodesL xs d n≤n+1048576 * szVs xs
 | [],_,n=>by simp [nodesL,szVs]
 | x :: xs,d,n=>by
  have h1:=nodesN_le x (d+1);have h2:=nodesL_le xs d (n+nodesN x (d+1));simp only [nodesL,szVs];split <;> omega
end
theorem nodesL_at {xs:List Val} {i d n:Nat} (h:i < xs.length) (hn:n < 65536):nodesL (xs.drop i) d n=nodesL (xs.drop (i+1)) d (n+nodesN (xs[i]'h) (d+1)):=by
 rw [List.drop_eq_getElem_cons h,nodesL,if_pos hn]
theorem nodesL_full {xs:List Val} {i d n:Nat} (hi:i≤xs.length) (h:¬ (i < xs.length∧n < 65536)):nodesL (xs.drop i) d n=n:=by
 by_cases hx:i < xs.length
 ·rw [List.drop_eq_getElem_cons hx,nodesL,if_neg (by omega)]
 ·have e:xs.drop i=[]:=List.drop_eq_nil_of_le (by omega);rw [e,nodesL]
theorem wr_arg {P:Program} {f:FuncId} {x:SV} {m:Int} {c:Nat} {r:SV} (h:PSpec P f [x,.d (.int .i64 (c:Int))] r) (e:m=(c:Int)):PSpec P f [x,.d (.int .i64 m)] r:=by rw [e];exact h
theorem ltN (k n:Nat):decide ((k:Int) < (n:Int))=decide (k < n):=by
 rw [Bool.eq_iff_iff];simp only [decide_eq_true_eq];omega
theorem lt50 (n:Nat):decide ((50:Int) < (n:Int))=decide (50 < n):=ltN 50 n
def largeV (v:Val):Bool:=decide (3000 < nodesN v 0)
def largeD (l:List Dlt):Bool:=(l.take 70).any (fun d=>largeV d.value || decide (50 < d.path.length)) || decide (100 < l.length)
theorem szVs_take:∀ (xs:List Val) (i:Nat),szVs (xs.take i)≤szVs xs
 | [],i=>by simp [szVs]
 | x :: xs,0=>by simp [szVs]
 | x :: xs,i+1=>by
  have:=szVs_take xs i;simp only [List.take_succ_cons,szVs];omega
theorem szVs_snoc:∀ {xs:List Val} {i:Nat} (h:i < xs.length),szVs (xs.take (i+1))=szVs (xs.take i)+szV (xs[i]'h)
 | x :: xs,0,_=>by simp [szVs]
 | x :: xs,i+1,h=>by
  have:=szVs_snoc (xs:=xs) (i:=i) (by simpa using h);simp only [List.take_succ_cons,szVs,this,List.getElem_cons_succ];omega
theorem take70 {l:List Dlt} {p:Dlt→Bool} {i:Nat} (hi:i≤l.length) (h:∀ (j:Nat) (hj:j < l.length),j < i→p l[j]=false) (he:¬ (i < l.length∧i < 70)):(l.take 70).any p=false:=by
 rw [List.any_eq_false];intro x hx;obtain ⟨j,hj,rfl⟩:=List.mem_iff_getElem.1 hx;rw [List.getElem_take];simp at hj;rw [h j (by omega) (by omega)];simp
theorem take70t {l:List Dlt} {p:Dlt→Bool} {i:Nat} (hi:i < l.length) (h7:i < 70) (hp:p (l[i]'hi)=true):(l.take 70).any p=true:=
 List.any_eq_true.2 ⟨l[i],List.mem_iff_getElem.2 ⟨i,by simp;omega,by rw [List.getElem_take]⟩,hp⟩
theorem fn69:FnOk Tryz.prog 69 35 [4] (bodyOf Tryz.f69):=⟨Tryz.f69,Tryz.func69,by kernel_rfl,by decide,by kernel_rfl,by kernel_rfl⟩
theorem s69A (m:Nat):∀ (v:Val) (d:Nat),SizeOf.sizeOf v < m→szV v≤1099511627776→d≤41→PSpec Tryz.prog 69 [.d (encV v),.d (.int .i64 (d:Int))] (.d (.int .i64 (nodesN v d:Nat))):=by
 induction m with
 | zero=>intros;omega
 | succ m ih=>
  rintro ⟨kd,it,tx,xs,ns⟩ d hv hsz hd;have hsz2:1+tx.length+szVs xs+szN ns≤1099511627776:=hsz;have hxl:=szVs_len xs;have hnl:=szN_len ns;have hln:=encVs_length xs;refine PSpec.of fn69 (by simp) fun o nk=>?_;refine wr ?_;refine u_step (g_box rfl fun o2 hb2 hk2=>?_);refine ua ?_;refine u_nil ?_;refine WP.seq fun K3 hK3=>?_;refine wr ?_;refine um ?_;refine ub ?_;refine u_nil ?_;refine wc (fun hc5=>?_) (fun hc5=>?_) <;> try simp only [Q0,Q1,Q2,Q3,Q4,Q5,Q6,Q7,Q8,ge_iff_le,gt_iff_lt] at hc5
  ·
   refine wr (ua (u_nil (WP.ret ?_)));refine ret_ok rfl ?_ (by omega) (fun t ht=>(hk2 t (by omega)));clear hK3;refine congrArg (D.int .i64) ?_;have hq:40 < d:=by have:=hc5;(try simp at this);omega
   rw [nodesN,if_pos hq];rfl
  ·
   have hd40:¬ 40 < d:=by have:=hc5;(try simp at this);omega
   refine WP.skip (hK3 _ (wr (uf th27 th22 hb2 ?_)));refine ul th22 hb2 ?_;refine un th22 ?_;refine ub (ua (u_nil (WP.seq fun K8 hK8=>?_)));refine wr (ua (u_nil (WP.block ?_)));refine WP.loopL (ι:=Nat×Nat) (fun ⟨i,n⟩=>⟨al [(1,.d (.int .i64 (d:Int))),(2,.loc nk 0),(5,.d (.int .i64 (n:Nat))),(6,.d (.int .i64 i))],o2,(nk+1)⟩) (fun ⟨i,n⟩=>i≤xs.length∧n≤1+ns.length+1048576 * szVs (xs.take i)∧nodesL (xs.drop i) d n=nodesL xs d (1+ns.length)) (fun ⟨i,n⟩=>xs.length - i) (fun ⟨i,n⟩ hA=>?_) ⟨0,1+ns.length⟩ ?_ ?_
   ·
    obtain ⟨hle,hnb,hnn⟩:=hA;refine WP.seq fun K10 hK10=>?_;refine wr (um (uf th27 th25 hb2 ?_));refine ul th25 hb2 ?_;refine un th25 ?_;refine ub (um ?_);apply gT
    ·rfl
    ·intro hg;exact pm
    apply gT
    ·rfl
    ·intro hg;try simp only [hg,ct,Bt]
     exact pb
    refine uA ?_;refine u_nil ?_;refine wc (fun hc12=>?_) (fun hc12=>?_) <;> try simp only [Q0,Q1,Q2,Q3,Q4,Q5,Q6,Q7,Q8,ge_iff_le,gt_iff_lt] at hc12
    ·
     have hin2:i < xs.length∧n < 65536:=by have:=hc12;(try simp [encVs_length] at this);omega
     refine WP.skip (hK10 _ (WP.seq fun K13 hK13=>?_));refine WP.block (WP.reg tabOk rfl ?_);refine um (uf th27 th25 hb2 ?_);refine ul th25 hb2 ?_;refine um ?_
     first | refine u_step (o_ia_map rfl rfl th25 rfl th27 rfl (by omega) ?_) | refine u_step (o_ia_vs rfl rfl th25 rfl th27 rfl (by omega) ?_)
     refine uL th27 ?_;refine um (ub ?_);refine u_step (o_pcall (wr_arg (c:=d+1) (ih xs[i] (d+1) (by exact items_lt' (by omega) hv) (by have:=szVs_get (xs:=xs) (j:=i) (by omega);omega) (by omega)) (by rw [wrap_i64 (by omega) (by omega)];omega)) rfl ?_);refine ub (ua (u_nil (hK13 _ (WP.reg tabOk rfl ?_))));refine um (ub (ua (u_nil ?_)));have hb1:=nodesN_le xs[i] (d+1);have hb2:=szVs_snoc (xs:=xs) (i:=i) (by omega);have hb3:=szVs_take xs (i+1);refine ⟨⟨i+1,n+nodesN xs[i] (d+1)⟩,⟨by omega,by omega,?_⟩,by simp only;omega,?_⟩
     ·rw [← hnn,nodesL_at hin2.1 hin2.2]
     ·refine Le.al ?_;simp only [List.forall_mem_cons];exact ⟨rfl,rfl,add_w rfl (by omega),cnt (by omega),by simp⟩
    ·
     have hin2:¬ (i < xs.length∧n < 65536):=by have:=hc12;(try simp [encVs_length] at this);omega
     refine WP.exit ?_;refine hK8 _ (wr (um (ua (u_nil (WP.ret ?_)))));refine ret_ok rfl ?_ (by omega) (fun t ht=>(hk2 t (by omega)));clear hK3 hK8 hK10;refine congrArg (D.int .i64) ?_;rw [nodesN,if_neg hd40,← hnn,nodesL_full hle hin2]
   ·
    exact ⟨by omega,by omega,rfl⟩
   ·
    refine Le.al ?_;simp only [List.forall_mem_cons];refine ⟨rfl,rfl,?_,rfl,by simp⟩;have hw:IntKind.i64.wrap (1+((ns.map D.str).length:Int))=((1+ns.length:Nat):Int):=by rw [List.length_map,wrap_i64 (by omega) (by omega)];omega
    rw [← hw];rfl
theorem s69 (v:Val) (d:Nat) (hsz:szV v≤1099511627776) (hd:d≤41):PSpec Tryz.prog 69 [.d (encV v),.d (.int .i64 (d:Int))] (.d (.int .i64 (nodesN v d:Nat))):=s69A _ v d (Nat.lt_succ_self _) hsz hd
theorem fn26:FnOk Tryz.prog 26 6 [2] (bodyOf Tryz.f26):=⟨Tryz.f26,Tryz.func26,by kernel_rfl,by decide,by kernel_rfl,by kernel_rfl⟩
theorem s26 (v:Val) (hsz:szV v≤1099511627776):PSpec Tryz.prog 26 [.d (encV v)] (.d (.bool (largeV v))):=by
 obtain ⟨kd,it,tx,xs,ns⟩:=v;refine PSpec.of fn26 (by simp) fun o nk=>?_;refine wr ?_;refine u_step (g_box rfl fun o2 hb2 hk2=>?_);refine ua (u_nil (wr (ug th27 hb2 ?_)));refine u_step (o_pcall (s69 (.mk kd it tx xs ns) 0 hsz (by omega)) rfl ?_);refine ub (ua (u_nil (WP.ret ?_)));refine ret_ok rfl ?_ (by omega) (fun t ht=>(hk2 t (by omega)));refine congrArg D.bool ?_;unfold largeV;rw [Bool.eq_iff_iff];simp only [decide_eq_true_eq];omega
theorem fn25:FnOk Tryz.prog 25 32 [2] (bodyOf Tryz.f25):=⟨Tryz.f25,Tryz.func25,by kernel_rfl,by decide,by kernel_rfl,by kernel_rfl⟩
theorem s25 (l:List Dlt) (hl:∀ d∈l,szV d.value≤1099511627776):PSpec Tryz.prog 25 [.d (.sl 8 (l.map encD))] (.d (.bool (largeD l))):=by
 refine PSpec.bd fun hbd=>?_;have hx:l.length≤9223372036854775807:=by simpa using hbd.1.1
 refine PSpec.of fn25 (by simp) fun o nk=>?_;refine wr (ua (u_nil (WP.seq fun K2 hK2=>?_)));refine wr (ua (u_nil (WP.block ?_)));refine WP.loopL (ι:=Nat) (fun i=>⟨al [(0,.d (.sl 8 (l.map encD))),(3,.d (.int .i64 i))],o,nk⟩) (fun i=>i≤l.length∧∀ (j:Nat) (hj:j < l.length),j < i→(largeV l[j].value || decide (50 < l[j].path.length))=false) (fun i=>l.length - i) (fun i hA=>?_) 0 ?_ ?_
 ·
  obtain ⟨hle_i,hin_i⟩:=hA;refine WP.seq fun K4 hK4=>?_;refine wr (um (um (un th28 ?_)));refine ub (um ?_);apply gT
  ·rfl
  ·intro hg;exact pm
  apply gT
  ·rfl
  ·intro hg;try simp only [hg,ct,Bt]
   exact pb
  refine uA ?_;refine u_nil ?_;refine wc (fun hc6=>?_) (fun hc6=>?_) <;> try simp only [Q0,Q1,Q2,Q3,Q4,Q5,Q6,Q7,Q8,ge_iff_le,gt_iff_lt] at hc6
  ·
   have hin2:i < l.length∧i < 70:=by have:=hc6;(try simp at this);omega
   have hil:=hin2.1;have hgd:l.getD i default=l[i]:=by simp [hil]
   refine WP.skip (hK4 _ (WP.seq fun K7 hK7=>?_));refine WP.block (wr (um (um ?_)));refine u_step (o_ia_G (xs:=l) default rfl rfl th28 rfl th83 rfl hin2.1 ?_);refine uF th83 th27 ?_;refine uL th27 ?_;refine u_step (o_pcall (pv (v:=(l.getD i default).value) (s26 _ (by rw [hgd];exact hl _ (List.getElem_mem _)))) rfl ?_);refine um ?_;apply gF
   ·rfl
   ·intro hg;exact pm
   apply gF
   ·rfl
   ·intro hg;exact pm
   apply gF
   ·rfl
   ·intro hg;try simp only [hg,ct,Bt]
    refine o_ia_G (xs:=l) default rfl rfl th28 rfl th83 rfl hin2.1 ⟨rfl,rfl,rfl⟩
   apply gF
   ·rfl
   ·intro hg;try simp only [hg,ct,Bt]
    exact pF th83 th22
   apply gF
   ·rfl
   ·intro hg;try simp only [hg,ct,Bt]
    exact pL th22
   apply gF
   ·rfl
   ·intro hg;try simp only [hg,ct,Bt]
    exact pn th22
   apply gF
   ·rfl
   ·intro hg;try simp only [hg,ct,Bt]
    exact pb
   refine uO ?_;refine u_nil ?_;refine wc (fun hc9=>?_) (fun hc9=>?_) <;> try simp only [Q0,Q1,Q2,Q3,Q4,Q5,Q6,Q7,Q8,ge_iff_le,gt_iff_lt] at hc9
   ·
    refine wr (ua (u_nil (WP.ret ?_)));refine ret_ok rfl ?_ (by omega) (fun _ _=>rfl);clear hK2 hK4 hK7;refine congrArg D.bool ?_;have hlq:=hc9;unfold largeD;rw [take70t (p:=fun d=>largeV d.value || decide (50 < d.path.length)) hin2.1 hin2.2 (by rw [hgd] at hlq;simpa only [List.length_map,lt50] using hlq)];rfl
   ·
    refine WP.skip (hK7 _ (WP.reg tabOk rfl ?_));refine um (ub (ua (u_nil ?_)));refine ⟨i+1,⟨by omega,?_⟩,by omega,?_⟩
    ·intro j hj h1;by_cases h2:j=i
     ·subst h2;have hlq:=hc9;rw [hgd] at hlq;simpa only [List.length_map,lt50] using hlq
     ·exact hin_i j hj (by omega)
    ·refine Le.al ?_;simp only [List.forall_mem_cons];exact ⟨rfl,cnt (by omega),by simp⟩
  ·
   have hin2:¬ (i < l.length∧i < 70):=by have:=hc6;(try simp at this);omega
   refine WP.exit ?_;refine hK2 _ (wr (um (un th28 ?_)));refine ub (ua (u_nil (WP.ret ?_)));refine ret_ok rfl ?_ (by omega) (fun _ _=>rfl);clear hK2 hK4;refine congrArg D.bool ?_;unfold largeD;rw [take70 (p:=fun d=>largeV d.value || decide (50 < d.path.length)) hle_i hin_i hin2,Bool.eq_iff_iff];simp;omega
 ·
  simp
 ·
  refine Le.al ?_;simp only [List.forall_mem_cons];exact ⟨rfl,rfl,by simp⟩
end Go.Proofs.YtpkcbdhjnnnkbaaGreat.Abs



namespace Go.Proofs.YtpkcbdhjnnnkbaaGreat.Abs
open Go
section
variable {P:Program} {Θ:Tab} {K:SV→(Nat→Option AO)→Nat→Prop} {sl:Nat→SV} {o:Nat→Option AO} {nk:Nat} {x y ix:Operand} {t e:Nat}
theorem o_ia_rowR {i j:TI} {q z m e2:Nat} {k:IntKind} {xs:List D} (hx:ev sl x=.row q) (hy:ev sl ix=.d (.int k (m:Int))) (hi:Θ t=some i) (hk:i.k=.slice e) (hj:Θ e=some j) (hz:z=j.sz) (ho:o q=some (.row e2 z xs)) (hm:m < xs.length) (h:K (.rel q m 0) o nk):vOp P Θ (.indexAddr t x ix) ⟨sl,o,nk⟩ K:=by
 refine .inl ?_;show ixOp Θ o t (ev sl x) (ev sl ix) (fun v=>K v o nk);rw [hx,hy];subst hz;exact ⟨i,e,j,k,m,hi,.inl hk,hj,rfl,by omega,hk,e2,xs,ho,by simpa using hm,by simpa using h⟩
theorem g_stRel {i:TI} {q j z e2:Nat} {xs cs ys:List D} (hx:ev sl x=.rel q j 0) (hy:ev sl y=.d (.agg ys)) (hi:Θ t=some i) (ho:o q=some (.row e2 z xs)) (hj:xs[j]?=some (.agg cs)) (hl:ys.length=i.sz) (hc:cs.length=i.sz) (hf:ys.all D.leaf=true)
    (h:∀ o1,o1 q=some (.row e2 z (xs.set j (.agg ys)))→(∀ u,u≠q→o1 u=o u)→K .any o1 nk):vOp P Θ (.store t x y) ⟨sl,o,nk⟩ K:=by
  refine .inr (.inr ⟨(.any,[(q,some (.row e2 z (xs.take j++[.agg ys]++xs.drop (j+1))))],nk),nW_of0 ?_,?_⟩)
  · have ha:allD (ys.map SV.d)=some ys:=by
      clear hy hl hf h
      induction ys with
      | nil=>rfl
      | cons y ys ih=>simp [allD,ih]
    simp only [nW0,hi,hx,hy,ho,hj,SV.cells,ha,hl,if_true];simp only [D.put];rw [if_pos ⟨by omega,hf⟩];simp only [List.take_zero,List.nil_append,Nat.zero_add];rw [List.drop_of_length_le (by omega),List.append_nil]
  · have hlt:j < xs.length:=(List.getElem?_eq_some_iff.1 hj).1;have e:xs.take j++[D.agg ys]++xs.drop (j+1)=xs.set j (.agg ys):=by
      rw [List.set_eq_take_append_cons_drop,if_pos hlt];simp
    rw [e];exact h _ (upd_same _ _ _) fun u hu=>upd_ne _ _ hu
theorem o_clip {i j:TI} {z:Nat} {xs:List D} {hi2 mx:Operand} (hx:ev sl x=.d (.sl z xs)) (hh:ev sl hi2=.d (.int .i64 xs.length)) (hm:ev sl mx=.d (.int .i64 xs.length)) (hi:Θ t=some i) (hk:i.k=.slice e) (hj:Θ e=some j) (hz:z=j.sz) (h:K (.dx z xs) o nk):vOp P Θ (.slice t x none (some hi2) (some mx)) ⟨sl,o,nk⟩ K:=by
 refine .inr (.inl ⟨.dx z xs,?_,h⟩);subst hz;simp only [nQ,hi,hk,hj,hx,viewOf,Option.map_some,Option.map_none,hh,hm];have hb:bnd xs.length (SV.d (D.int .i64 (xs.length:Int)))=some xs.length:=by simp [bnd]
 delta vbnd
 simp only [hb,Option.map_some];simp [hb]
theorem w_apxs {i j:TI} {l xs ys:List D} {z:Nat} (hx:ev sl x=.dx z xs) (hy:ev sl y=.d (.sl z ys)) (hi:Θ t=some i) (hk:i.k=.slice e) (hj:Θ e=some j) (hz:j.z=some l) (hl:l.length=j.sz) (hpos:0 < j.sz) (hne:ys≠[]) (h63:xs.length+ys.length≤9223372036854775807) (hby:(xs.length+ys.length) * j.bys≤140737488355328)
    (h:K (.row nk) (upd o nk (some (.row e j.sz (xs++ys)))) (nk+1)) (hzD:(zD j).isSome=true:=by rfl) (hzz:z=j.sz:=by rfl):vOp P Θ (.call { callee:=.builtin .append,args:=#[x,y],argTypes:=#[t,t] }) ⟨sl,o,nk⟩ K:=by
  refine .inr (.inr ⟨(.row nk,[(nk,some (.row e j.sz (xs++ys)))],nk+1),nW_of0 ?_,h⟩);obtain ⟨zz,hzz2⟩:=Option.isSome_iff_exists.1 hzD;subst hzz;have hs:srcN o j.sz (.d (.sl j.sz ys))=some ys:=by simp [srcN,viewOf,srcOf]
  have hzl:zLen j=true:=by simp [zLen,hz,hl]
  cases ys with
  | nil=>exact absurd rfl hne
  | cons y0 ys=>
    simp only [nW0,hi,hk,hj,hzz2,hx,hy,if_true,hs,hpos,hzl,and_self];rw [if_pos ⟨h63,hby⟩]
theorem g_apxs {i j:TI} {l xs ys:List D} {z:Nat} (hx:ev sl x=.dx z xs) (hy:ev sl y=.d (.sl z ys)) (hi:Θ t=some i) (hk:i.k=.slice e) (hj:Θ e=some j) (hz:j.z=some l) (hl:l.length=j.sz) (hpos:0 < j.sz) (hne:ys≠[]) (h63:xs.length+ys.length≤9223372036854775807) (hby:(xs.length+ys.length) * j.bys≤140737488355328)
    (h:∀ o1,o1 nk=some (.row e j.sz (xs++ys))→(∀ u,u≠nk→o1 u=o u)→K (.row nk) o1 (nk+1)) (hzD:(zD j).isSome=true:=by rfl) (hzz:z=j.sz:=by rfl):vOp P Θ (.call { callee:=.builtin .append,args:=#[x,y],argTypes:=#[t,t] }) ⟨sl,o,nk⟩ K:=
  w_apxs hx hy hi hk hj hz hl hpos hne h63 hby (h _ (upd_same _ _ _) fun u hu=>upd_ne _ _ hu) hzD hzz
end
def swapV (v:Val) (j:Nat) (x:Val):Val:=.mk v.kind v.int v.text (v.items.set j x) v.names
def growV (v:Val) (s:Str) (x:Val):Val:=.mk v.kind v.int v.text (v.items++[x]) (if v.kind=7 then v.names++[s] else v.names)
theorem encVs_set {xs:List Val} {j:Nat} {x:Val}:(encVs xs).set j (encV x)=encVs (xs.set j x):=by
 rw [encVs_map,encVs_map,List.map_set]
theorem fn190:FnOkC Tryz.prog 190 2 [.cell 0 27] (bodyOf Tryz.f190):=⟨Tryz.f190,Tryz.func190,by kernel_rfl,by decide,by kernel_rfl,by kernel_rfl⟩
theorem s190:PSpec Tryz.prog 190 [] (.d (.agg [.int .i64 1,.int .i64 0,.str [],.nil,.nil])):=by
 refine PSpec.ofC1 tabOk fn190 (by simp) fun o nk=>?_;refine wr ?_;refine u_step (g_alloc th27 rfl fun o2 hb2 hk2=>?_);refine u_nil (wr ?_);refine u_step (o_bu rfl th27 rfl rfl ?_);refine u_step0 (g_sta rfl rfl th27 rfl hb2 (by first | (simp;done) | (simp [D.leaves,D.width,valCells];done) | decide) fun o4 hb4 hk4=>?_);refine u_nil (WP.ret ?_);refine retC1_ok (resis_agg rfl th27 rfl hb4 rfl rfl rfl) ?_ (by omega) (fun t ht=>(hk4 t (by omega)).trans ((hk2 t (by omega))));rfl
theorem fn192:FnOk Tryz.prog 192 8 [2] (bodyOf Tryz.f192):=⟨Tryz.f192,Tryz.func192,by kernel_rfl,by decide,by kernel_rfl,by kernel_rfl⟩
theorem s192 (ys:List D) (hsz:ys.length≤1099511627776):DSpec Tryz.prog 192 [.d (.sl 5 ys)] 27 5 (ys):=by
 refine DSpec.of fn192 (by simp) fun o nk=>?_;refine wr ?_;refine ua ?_;refine u_nil ?_;refine WP.seq fun K2 hK2=>?_;refine wr ?_;refine um ?_;refine u_step (o_eqnil rfl rfl th25 rfl fun nb4 hnb4=>?_);refine u_nil ?_;refine wc (fun hc5=>?_) (fun hc5=>?_) <;> try simp only [Q0,Q1,Q2,Q3,Q4,Q5,Q6,Q7,Q8,ge_iff_le,gt_iff_lt] at hc5
 ·
  refine wr (ua (u_nil (WP.ret ?_)));refine dnil_ok rfl ?_ (by omega) (fun _ _=>rfl);exact hnb4 hc5
 ·
  refine WP.skip (hK2 _ (wr ?_));refine u_step (g_bs0 th25 rfl th27 rfl rfl (by decide) fun o8 hb8 hk8=>?_);refine um ?_;refine u_step (g_ap rfl rfl th25 rfl th27 rfl rfl (by decide) rfl hb8 (by simp only [List.length_nil];omega) (by simp only [List.length_nil];omega) fun o9 hb9 hk9=>?_);refine uS (u_nil (WP.ret ?_));refine drow_ok rfl (by omega) (by omega) ?_ (fun t ht=>(hk9 t (by omega) (by omega)).trans ((hk8 t (by omega))));simpa using hb9
theorem s192r (ys:List D) (hne:ys≠[]) (hsz:ys.length≤1099511627776):RSpec Tryz.prog 192 [.d (.sl 5 ys)] 27 5 (ys):=by
 refine RSpec.of fn192 (by simp) fun o nk=>?_;refine wr ?_;refine ua ?_;refine u_nil ?_;refine WP.seq fun K2 hK2=>?_;refine wr ?_;refine um ?_;refine u_step (o_eqnil rfl rfl th25 rfl fun nb4 hnb4=>?_);refine u_nil ?_;refine wc (fun hc5=>?_) (fun hc5=>?_) <;> try simp only [Q0,Q1,Q2,Q3,Q4,Q5,Q6,Q7,Q8,ge_iff_le,gt_iff_lt] at hc5
 ·
  exact absurd (hnb4 hc5) hne
 ·
  refine WP.skip (hK2 _ (wr ?_));refine u_step (g_bs0 th25 rfl th27 rfl rfl (by decide) fun o7 hb7 hk7=>?_);refine um ?_;refine u_step (g_ap rfl rfl th25 rfl th27 rfl rfl (by decide) rfl hb7 (by simp only [List.length_nil];omega) (by simp only [List.length_nil];omega) fun o8 hb8 hk8=>?_);refine uS (u_nil (WP.ret ?_));refine rrow_okx rfl (by omega) (by omega) hb8 (fun t ht=>(hk8 t (by omega) (by omega)).trans ((hk7 t (by omega)))) ?_;simp
theorem encVs_app1 (xs:List Val) (x:Val):encVs (xs++[x])=encVs xs++[encV x]:=by simp [encVs_map]
theorem growV_yes {k i:Int} {t:Str} {xs:List Val} {ns:List Str} {s:Str} {x:Val} (h:k=7):D.agg [.int .i64 k,.int .i64 i,.str t,.sl 5 (encVs xs++[encV x]),.sl 1 (ns.map D.str++[D.str s])]=encV (growV (.mk k i t xs ns) s x):=by
 simp [growV,Val.kind,Val.int,Val.text,Val.items,Val.names,h,encV,encVs_app1]
theorem growV_no {k i:Int} {t:Str} {xs:List Val} {ns:List Str} {s:Str} {x:Val} (h:¬ k=7):D.agg [.int .i64 k,.int .i64 i,.str t,.sl 5 (encVs xs++[encV x]),.sl 1 (ns.map D.str)]=encV (growV (.mk k i t xs ns) s x):=by
 simp [growV,Val.kind,Val.int,Val.text,Val.items,Val.names,h,encV,encVs_app1]
theorem fn200:FnOk Tryz.prog 200 9 [2] (bodyOf Tryz.f200):=⟨Tryz.f200,Tryz.func200,by kernel_rfl,by decide,by kernel_rfl,by kernel_rfl⟩
theorem s200 (xs:List D):PSpec Tryz.prog 200 [.d (.sl 5 xs)] (.dx 5 xs):=by
 refine fun o nk=>Spec.pure (fun _=>trivial) rfl (Spec.of_body fn200 (by simp) ?_);refine wr (ua (u_nil (wr (um (um (un th25 ?_))))));refine um (un th25 ?_);refine u_step (o_clip rfl rfl rfl th25 rfl th27 rfl ?_);refine u_step (o_assignV (v:=.dx _ _) rfl ?_);refine u_nil (WP.ret ?_);exact ⟨rfl,Nat.le_refl _,fun _ _=>rfl⟩
theorem fn201:FnOk Tryz.prog 201 9 [2] (bodyOf Tryz.f201):=⟨Tryz.f201,Tryz.func201,by kernel_rfl,by decide,by kernel_rfl,by kernel_rfl⟩
theorem s201 (xs:List D):PSpec Tryz.prog 201 [.d (.sl 1 xs)] (.dx 1 xs):=by
 refine fun o nk=>Spec.pure (fun _=>trivial) rfl (Spec.of_body fn201 (by simp) ?_);refine wr (ua (u_nil (wr (um (um (un th22 ?_))))));refine um (un th22 ?_);refine u_step (o_clip rfl rfl rfl th22 rfl th9 rfl ?_);refine u_step (o_assignV (v:=.dx _ _) rfl ?_);refine u_nil (WP.ret ?_);exact ⟨rfl,Nat.le_refl _,fun _ _=>rfl⟩
theorem fn189:FnOkC Tryz.prog 189 25 [.cell 6 27] (bodyOf Tryz.f189):=⟨Tryz.f189,Tryz.func189,by kernel_rfl,by decide,by kernel_rfl,by kernel_rfl⟩
theorem s189 (v:Val) (s:Str) (x:Val) (hsz:szV v≤1099511627776):PSpec Tryz.prog 189 [.d (encV v),.d (.str s),.d (encV x)] (.d (encV (growV v s x))):=by
 obtain ⟨kd,it,tx,xs,ns⟩:=v;obtain ⟨k2,i2,t2,xs2,ns2⟩:=x;have hsz2:1+tx.length+szVs xs+szN ns≤1099511627776:=hsz;have hxl:=szVs_len xs;have hnl:=szN_len ns;have hln:=encVs_length xs;refine PSpec.ofC1 tabOk fn189 (by simp) fun o nk=>?_;refine wr ?_;refine u_step (g_box rfl fun o2 hb2 hk2=>?_);refine u_step (g_box rfl fun o3 hb3 hk3=>?_);have hb2_3:=(hk3 _ (by omega)).trans hb2;refine u_step (g_alloc th27 rfl fun o4 hb4 hk4=>?_);have hb2_4:=(hk4 _ (by omega)).trans hb2_3;have hb3_4:=(hk4 _ (by omega)).trans hb3;refine u_nil (WP.seq fun K5 hK5=>?_);refine WP.dr2 [.q 0 0,.q 0 0,.q 0 0,.q 0 0,.q 0 0,.w 0,.q 1 1,.w 1] [5,7] ((((nk+1)+1)+1)+1) ((((nk+1)+1)+1)+1) tabOk (by kernel_rfl) rfl (by kernel_rfl) (by kernel_rfl) ?_;apply Exists.intro;apply Exists.intro;refine e_step rfl (o_fa_loc rfl th27 rfl rfl th25 (by decide) hb2_4 ⟨rfl,rfl,rfl⟩) ?_;refine e_step rfl (o_ld_loc rfl th25 rfl hb2_4 rfl ⟨rfl,rfl,rfl⟩) ?_;refine e_step rfl (o_pcall (s200 (encVs xs)) rfl ⟨rfl,rfl,rfl⟩) ?_;refine e_step rfl (o_ld_agg rfl th27 rfl hb3_4 rfl rfl rfl ⟨rfl,rfl,rfl⟩) ?_
 first | refine e_step rfl (o_bs rfl th25 rfl th27 rfl rfl (by decide) rfl (by decide) (by decide) ⟨rfl,rfl,rfl⟩) ?_ | refine e_step rfl (o_bs1 rfl (by simp only [encV_width]) th25 rfl th27 rfl rfl (by decide) (by decide) ⟨rfl,rfl,rfl⟩) ?_
 refine e_w rfl rfl (w_apxs rfl rfl th25 rfl th27 rfl rfl (by decide) (by simp) (by simp only [hln,List.length_cons,List.length_nil];omega) (by simp only [hln,List.length_cons,List.length_nil];omega) ⟨rfl,rfl,rfl⟩) ?_;refine e_step rfl (o_fa_loc rfl th27 rfl rfl th25 (by decide) ((upd_ne _ _ (by omega)).trans hb2_4) ⟨rfl,rfl,rfl⟩) ?_;refine e_w0 rfl rfl (w_stV rfl rfl (upd_same _ _ _) th25 rfl ((upd_ne _ _ (by omega)).trans hb2_4) (by simp) ⟨rfl,rfl,rfl⟩) ?_;refine e_nil rfl fun o8 ho8=>?_;have hbb3_8:=(ho8 _).trans ((upd_ne _ _ (by omega)).trans ((upd_ne _ _ (by omega)).trans hb3_4));have hbb4_8:=(ho8 _).trans ((upd_ne _ _ (by omega)).trans ((upd_ne _ _ (by omega)).trans hb4));have hbr6_8:=(ho8 _).trans ((upd_ne _ _ (by omega)).trans (upd_same _ _ _));have hbb2_8:=(ho8 _).trans (upd_same _ _ _);have hk8:∀ t,t < nk→o8 t=o4 t:=fun t ht=>(ho8 t).trans ((upd_ne _ _ (by omega)).trans (upd_ne _ _ (by omega)));refine hK5 _ (WP.seq fun K9 hK9=>?_);refine wr (uf th27 th3 hbb2_8 ?_);refine ul th3 hbb2_8 ?_;refine ub (u_nil ?_);refine wc (fun hc11=>?_) (fun hc11=>?_)
 ·
  simp at hc11;refine WP.reg tabOk rfl ?_;refine uf th27 th22 hbb2_8 ?_;refine ul th22 hbb2_8 ?_;refine u_step (o_pcall (s201 (ns.map D.str)) rfl ?_);refine um ?_;refine u_step (o_bs rfl th22 rfl th9 rfl rfl (by decide) rfl (by decide) (by decide) ?_);refine u_step (g_apxs rfl rfl th22 rfl th9 rfl rfl (by decide) (by simp) (by simp only [List.length_map,List.length_cons,List.length_nil];omega) (by simp only [List.length_map,List.length_cons,List.length_nil];omega) fun o12 hb12 hk12=>?_);have hbb3_12:=(hk12 _ (by omega)).trans hbb3_8;have hbb4_12:=(hk12 _ (by omega)).trans hbb4_8;have hbr6_12:=(hk12 _ (by omega)).trans hbr6_8;have hbb2_12:=(hk12 _ (by omega)).trans hbb2_8;refine uf th27 th22 hbb2_12 ?_;refine u_step0 (g_stV rfl rfl hb12 th22 rfl hbb2_12 (by simp) fun o13 hb13 hk13=>?_);have hbb3_13:=(hk13 _ (by omega)).trans hbb3_12;have hbb4_13:=(hk13 _ (by omega)).trans hbb4_12;have hbr6_13:=(hk13 _ (by omega)).trans hbr6_12;have hb12_13:=(hk13 _ (by omega)).trans hb12;refine u_nil (hK9 _ ?_);have hF0:∀ t,t < nk→o13 t=o t:=(fun t ht=>(hk13 t (by omega)).trans ((hk12 t (by omega)).trans ((hk8 t (by omega)).trans ((hk4 t (by omega)).trans ((hk3 t (by omega)).trans ((hk2 t (by omega))))))));refine WP.frzC2 (pre:=[.d (.int .i64 kd),.d (.int .i64 it),.d (.str tx)]) (post:=[]) [(3,.loc nk 0),(6,.loc (nk+1+1) 0)] nk hb13 (dst_row hbr6_13) (dst_row hb12_13) (fun t h1 h2=>by injection h1 with h1;injection h2 with h2;omega) (by omega) (fun t d=>⟨rfl,rfl⟩) (fun t d=>by simp only [List.forall_mem_cons];exact ⟨⟨rfl,rfl⟩,⟨rfl,rfl⟩,by simp⟩) (by simp only [List.forall_mem_cons];exact ⟨rfl,rfl,by simp⟩) (by simp only [List.forall_mem_cons];exact ⟨rfl,rfl,by simp⟩) fun o9 hB9 hk9 hm9=>?_;have hZ9:=hm9 _ _ (by omega) hbb4_13 fun t _=>rfl;have hF9:∀ t,t < nk→o9 t=o t:=fun t ht=>(hk9 t ht (by simp;omega) (by simp;omega)).trans (hF0 t ht);refine wr (ug th27 hB9 ?_);refine u_step0 (g_sta rfl rfl th27 rfl hZ9 (by first | (simp;done) | (simp [D.leaves,D.width,valCells];done) | decide) fun o15 hb15 hk15=>?_);have hB9_15:=(hk15 _ (by omega)).trans hB9;refine u_nil (WP.ret ?_);refine retC1_ok (resis_agg rfl th27 rfl hb15 rfl rfl rfl) ?_ (by omega) (fun t ht=>(hk15 t (by omega)).trans ((hF9 t (by omega))));exact growV_yes (i:=it) (t:=tx) (xs:=xs) (ns:=ns) (s:=s) (x:=.mk k2 i2 t2 xs2 ns2) hc11
 ·
  simp at hc11;refine WP.skip (hK9 _ ?_);have hF0:∀ t,t < nk→o8 t=o t:=(fun t ht=>(hk8 t (by omega)).trans ((hk4 t (by omega)).trans ((hk3 t (by omega)).trans ((hk2 t (by omega))))));refine WP.frzC (pre:=[.d (.int .i64 kd),.d (.int .i64 it),.d (.str tx)]) (post:=[.d (.sl 1 (ns.map .str))]) [(3,.loc nk 0),(6,.loc (nk+1+1) 0)] nk hbb2_8 (dst_row hbr6_8) (by omega) (fun t e=>⟨rfl,rfl⟩) (fun t e=>by simp only [List.forall_mem_cons];exact ⟨rfl,rfl,by simp⟩) (fun e=>by cases e) fun o9 hB9 hk9 hm9=>?_;have hZ9:=hm9 _ _ (by omega) hbb4_8 fun t _=>rfl;have hF9:∀ t,t < nk→o9 t=o t:=fun t ht=>(hk9 t ht (by simp;omega)).trans (hF0 t ht);refine wr (ug th27 hB9 ?_);refine u_step0 (g_sta rfl rfl th27 rfl hZ9 (by first | (simp;done) | (simp [D.leaves,D.width,valCells];done) | decide) fun o17 hb17 hk17=>?_);have hB9_17:=(hk17 _ (by omega)).trans hB9;refine u_nil (WP.ret ?_);refine retC1_ok (resis_agg rfl th27 rfl hb17 rfl rfl rfl) ?_ (by omega) (fun t ht=>(hk17 t (by omega)).trans ((hF9 t (by omega))));exact growV_no (i:=it) (t:=tx) (xs:=xs) (ns:=ns) (s:=s) (x:=.mk k2 i2 t2 xs2 ns2) hc11
theorem swapV_eq {k i:Int} {t:Str} {xs:List Val} {ns:List Str} {j:Nat} {x:Val}:D.agg [.int .i64 k,.int .i64 i,.str t,.sl 5 ((encVs xs).set j (encV x)),.sl 1 (ns.map D.str)]=encV (swapV (.mk k i t xs ns) j x):=by
 simp [swapV,Val.kind,Val.int,Val.text,Val.items,Val.names,encV,encVs_set]
theorem item_agg {xs:List Val} {j:Nat} (h:j < xs.length):(encVs xs)[j]?=some (.agg (valCells (xs[j]'h))):=by
 rw [encVs_map,List.getElem?_map,List.getElem?_eq_getElem h,Option.map_some,encV_eq]
theorem fn188:FnOkC Tryz.prog 188 10 [.cell 4 27] (bodyOf Tryz.f188):=⟨Tryz.f188,Tryz.func188,by kernel_rfl,by decide,by kernel_rfl,by kernel_rfl⟩
theorem s188:PSpec Tryz.prog 188 [.d .nil,.d .nil] (.d (encV (.mk 7 0 [] [] []))):=by
 refine PSpec.ofC1 tabOk fn188 (by simp) fun o nk=>?_;refine wr ?_;refine u_step (g_alloc th27 rfl fun o2 hb2 hk2=>?_);refine u_nil (wr (um ?_));refine u_step (o_pcall (((s192 [] (by simp)).frz.le (args:=[.d .nil]) ⟨by simp [SV.le,D.le],trivial⟩)) rfl ?_);refine um ?_;refine u_step (o_pcall (((s127 [] (by simp)).frz.le (args:=[.d .nil]) ⟨by simp [SV.le,D.le],trivial⟩)) rfl ?_);refine u_step (o_bu rfl th27 rfl rfl ?_);refine u_step0 (g_sta rfl rfl th27 rfl hb2 (by first | (simp;done) | (simp [D.leaves,D.width,valCells];done) | decide) fun o4 hb4 hk4=>?_);refine u_nil (WP.ret ?_);refine retC1_ok (resis_agg rfl th27 rfl hb4 rfl rfl rfl) ?_ (by omega) (fun t ht=>(hk4 t (by omega)).trans ((hk2 t (by omega))));rfl
theorem fn168:FnOkC Tryz.prog 168 17 [.cell 6 27] (bodyOf Tryz.f168):=⟨Tryz.f168,Tryz.func168,by kernel_rfl,by decide,by kernel_rfl,by kernel_rfl⟩
theorem s168 (v:Val) (j:Nat) (x:Val) (hj:j < v.items.length) (hsz:szV v≤1099511627776):PSpec Tryz.prog 168 [.d (encV v),.d (.int .i64 (j:Int)),.d (encV x)] (.d (encV (swapV v j x))):=by
 obtain ⟨kd,it,tx,xs,ns⟩:=v;obtain ⟨k2,i2,t2,xs2,ns2⟩:=x;have hj2:j < xs.length:=hj;have hsz2:1+tx.length+szVs xs+szN ns≤1099511627776:=hsz;have hxl:=szVs_len xs;have hln:=encVs_length xs;have hgx:=item_agg hj2;refine PSpec.ofC1 tabOk fn168 (by simp) fun o nk=>?_;refine wr ?_;refine u_step (g_box rfl fun o2 hb2 hk2=>?_);refine u_step (g_box rfl fun o3 hb3 hk3=>?_);have hb2_3:=(hk3 _ (by omega)).trans hb2;refine u_step (g_alloc th27 rfl fun o4 hb4 hk4=>?_);have hb2_4:=(hk4 _ (by omega)).trans hb2_3;have hb3_4:=(hk4 _ (by omega)).trans hb3;refine u_nil (wr (uf th27 th25 hb2_4 ?_));refine ul th25 hb2_4 ?_;refine u_step (o_rcall (s192r (encVs xs) (by intro e;rw [e] at hln;simp at hln;omega) (by omega)) rfl fun q6 o6 nk6 hqa6 hqb6 hb6 hk6=>?_);have hb2_6:=(hk6 _ (by omega)).trans hb2_4;have hb3_6:=(hk6 _ (by omega)).trans hb3_4;have hb4_6:=(hk6 _ (by omega)).trans hb4;refine uf th27 th25 hb2_6 ?_;refine u_step0 (g_stV rfl rfl hb6 th25 rfl hb2_6 (by simp) fun o7 hb7 hk7=>?_);have hb3_7:=(hk7 _ (by omega)).trans hb3_6;have hb4_7:=(hk7 _ (by omega)).trans hb4_6;have hb6_7:=(hk7 _ (by omega)).trans hb6;refine u_nil (wr (uf th27 th25 hb7 ?_));refine u_step (o_ld_locV rfl th25 rfl hb7 rfl ?_);refine um (ug th27 hb3_7 ?_);refine u_step (o_ia_rowR rfl rfl th25 rfl th27 rfl hb6_7 (by omega) ?_);refine u_step0 (g_stRel rfl rfl th27 hb6_7 hgx rfl rfl rfl fun o9 hb9 hk9=>?_);have hb3_9:=(hk9 _ (by omega)).trans hb3_7;have hb4_9:=(hk9 _ (by omega)).trans hb4_7;have hb7_9:=(hk9 _ (by omega)).trans hb7;refine u_nil ?_;have hF0:∀ t,t < nk→o9 t=o t:=(fun t ht=>(hk9 t (by omega)).trans ((hk7 t (by omega)).trans ((hk6 t (by omega)).trans ((hk4 t (by omega)).trans ((hk3 t (by omega)).trans ((hk2 t (by omega))))))));refine WP.frzC (pre:=[.d (.int .i64 kd),.d (.int .i64 it),.d (.str tx)]) (post:=[.d (.sl 1 (ns.map .str))]) [(3,.loc nk 0),(6,.loc (nk+1+1) 0)] nk hb7_9 (dst_row hb9) (by omega) (fun t e=>⟨rfl,rfl⟩) (fun t e=>by simp only [List.forall_mem_cons];exact ⟨rfl,rfl,by simp⟩) (fun e=>by cases e) fun o9 hB9 hk9 hm9=>?_;have hZ9:=hm9 _ _ (by omega) hb4_9 fun t _=>rfl;have hF9:∀ t,t < nk→o9 t=o t:=fun t ht=>(hk9 t ht (by simp;omega)).trans (hF0 t ht);refine wr (ug th27 hB9 ?_);refine u_step0 (g_sta rfl rfl th27 rfl hZ9 (by first | (simp;done) | (simp [D.leaves,D.width,valCells];done) | decide) fun o11 hb11 hk11=>?_);have hB9_11:=(hk11 _ (by omega)).trans hB9;refine u_nil (WP.ret ?_);refine retC1_ok (resis_agg rfl th27 rfl hb11 rfl rfl rfl) ?_ (by omega) (fun t ht=>(hk11 t (by omega)).trans ((hF9 t (by omega))));exact swapV_eq (i:=it) (t:=tx) (xs:=xs) (ns:=ns) (x:=.mk k2 i2 t2 xs2 ns2)
def ixI (s:Str):Int:=if 0≤stepI s then stepI s else 0
def ixB (s:Str):Bool:=decide (0≤stepI s)
theorem s184t (s:Str):PSpec Tryz.prog 184 [.d (.str s)] (.tup [.d (.int .i64 (ixI s)),.d (.bool (ixB s))]):=by
 have h:=s184 s;have e:(idxL s).map SV.d=[.d (.int .i64 (ixI s)),.d (.bool (ixB s))]:=by
  unfold idxL ixI ixB;by_cases h0:0≤stepI s <;> simp [h0]
 rw [e] at h;exact h
def setP:Val→List Str→Val→Val×Bool
 | v,[],x=>(x,true)
 | v,s :: p,x=>
  if 0≤placeV v s then (swapV v (placeV v s).toNat (setP (v.items.getD (placeV v s).toNat v) p x).1,(setP (v.items.getD (placeV v s).toNat v) p x).2)
  else if v.kind=7 then (growV v s (setP (.mk 7 0 [] [] []) p x).1,(setP (.mk 7 0 [] [] []) p x).2)
  else if v.kind=6 then (growV v [] x,ixB s && decide (ixI s=(v.items.length:Int)) && decide ((p.length:Int)+1=1))
  else (v,false)
theorem setP_in {v:Val} {s:Str} {p:List Str} {x y:Val} (h:0≤placeV v s) (hy:v.items[(placeV v s).toNat]?=some y):setP v (s :: p) x=(swapV v (placeV v s).toNat (setP y p x).1,(setP y p x).2):=by
 rw [setP,if_pos h,List.getD_eq_getElem?_getD,hy];rfl
theorem setP_doc {v:Val} {s:Str} {p:List Str} {x:Val} (h:¬ 0≤placeV v s) (h7:v.kind=7):setP v (s :: p) x=(growV v s (setP (.mk 7 0 [] [] []) p x).1,(setP (.mk 7 0 [] [] []) p x).2):=by
 rw [setP,if_neg h,if_pos h7]
theorem setP_arr {v:Val} {s:Str} {p:List Str} {x:Val} (h:¬ 0≤placeV v s) (h7:¬ v.kind=7) (h6:v.kind=6):setP v (s :: p) x=(growV v [] x,ixB s && decide (ixI s=(v.items.length:Int)) && decide ((p.length:Int)+1=1)):=by
 rw [setP,if_neg h,if_neg h7,if_pos h6]
theorem setP_no {v:Val} {s:Str} {p:List Str} {x:Val} (h:¬ 0≤placeV v s) (h7:¬ v.kind=7) (h6:¬ v.kind=6):setP v (s :: p) x=(v,false):=by
 rw [setP,if_neg h,if_neg h7,if_neg h6]
theorem s168c (v:Val) (i:Int) (x:Val) (h0:0≤i) (hj:i.toNat < v.items.length) (hsz:szV v≤1099511627776):PSpec Tryz.prog 168 [.d (encV v),.d (.int .i64 i),.d (.agg (valCells x))] (.d (encV (swapV v i.toNat x))):=by
 have h:=s168 v i.toNat x hj hsz;rw [Int.toNat_of_nonneg h0,encV_eq x] at h;exact h
theorem s189c (v:Val) (s:Str) (x:Val) (hsz:szV v≤1099511627776):PSpec Tryz.prog 189 [.d (encV v),.d (.str s),.d (.agg (valCells x))] (.d (encV (growV v s x))):=by
 have h:=s189 v s x hsz;rw [encV_eq x] at h;exact h
theorem o_sl_tl {P:Program} {Θ:Tab} {K:SV→(Nat→Option AO)→Nat→Prop} {sl:Nat→SV} {o:Nat→Option AO} {nk:Nat} {x lo:Operand} {t e:Nat} {i j:TI} {z:Nat} {a:D} {l:List D} (hx:ev sl x=.d (.sl z (a :: l))) (hlo:ev sl lo=.d (.int .i64 1)) (hi:Θ t=some i) (hk:i.k=.slice e) (hj:Θ e=some j) (hz:j.sz=z) (h:K (.d (.sl z l)) o nk):vOp P Θ (.slice t x (some lo) none none) ⟨sl,o,nk⟩ K:=by
 refine o_sl_sl (m:=(a :: l).length) (p:=1) hx hi hk hj hz (by simp [bndO]) ?_ ?_
 ·simp only [Option.map_some,bndO,hlo,bnd];rw [if_pos (by simp;omega)];rfl
 ·simpa using h
theorem fn164:FnOkC Tryz.prog 164 88 [.cell 6 27,.tmp 7] (bodyOf Tryz.f164):=⟨Tryz.f164,Tryz.func164,by kernel_rfl,by decide,by kernel_rfl,by kernel_rfl⟩
theorem s164A (m:Nat):∀ (p:List Str) (v x:Val),p.length < m→mayV v=true→szV v≤1099511627776→PSpec Tryz.prog 164 [.d (encV v),.d (.sl 1 (p.map .str)),.d (encV x)] (.tup (([encV (setP v p x).1,.bool (setP v p x).2]).map .d)):=by
 induction m with
 | zero=>intros;omega
 | succ m ih=>
  rintro p ⟨kd,it,tx,xs,ns⟩ ⟨k2,i2,t2,xs2,ns2⟩ hp hmy hsz;refine PSpec.of2C tabOk fn164 (by simp) fun o nk=>?_;refine wr ?_;refine u_step (g_box rfl fun o2 hb2 hk2=>?_);refine u_step (g_box rfl fun o3 hb3 hk3=>?_);have hb2_3:=(hk3 _ (by omega)).trans hb2;refine u_step (g_alloc th27 rfl fun o4 hb4 hk4=>?_);have hb2_4:=(hk4 _ (by omega)).trans hb2_3;have hb3_4:=(hk4 _ (by omega)).trans hb3;refine ua (u_nil (WP.seq fun K5 hK5=>?_));refine wr (um (un th22 ?_));refine ub (u_nil ?_);refine wc (fun hc7=>?_) (fun hc7=>?_)
  ·
   simp at hc7;refine wr (ug th27 hb3_4 ?_);refine u_step0 (g_sta rfl rfl th27 rfl hb4 (by first | (simp;done) | (simp [D.leaves,D.width,valCells];done) | decide) fun o9 hb9 hk9=>?_);have hb2_9:=(hk9 _ (by omega)).trans hb2_4;have hb3_9:=(hk9 _ (by omega)).trans hb3_4;refine ua (u_nil (WP.ret ?_));refine retC_ok (resis_agg rfl th27 rfl hb9 rfl rfl rfl) rfl ?_ ?_ (by omega) (fun t ht=>(hk9 t (by omega)).trans ((hk4 t (by omega)).trans ((hk3 t (by omega)).trans ((hk2 t (by omega))))))
   ·have hp0:p=[]:=by simpa using hc7
    subst hp0;first | rfl | exact (encV_eq _).symm
   ·have hp0:p=[]:=by simpa using hc7
    subst hp0;rfl
  ·
   simp at hc7;obtain ⟨s,p,rfl⟩:∃ s q,p=s :: q:=by cases p with
    | nil=>simp at hc7
    | cons s q=>exact ⟨s,q,rfl⟩
   have hp2:p.length < m:=by simp at hp;omega
   refine WP.skip (hK5 _ (WP.seq fun K10 hK10=>?_));refine wd ?_;refine dg th27 hb2_4 ?_;refine dm ?_;refine d_step (o_ia_sl rfl rfl th22 rfl th9 rfl (by decide) rfl ⟨rfl,rfl,rfl⟩) ?_;refine dL th9 ?_;refine d_step (o_pcall (s156 (.mk kd it tx xs ns) s) rfl ⟨rfl,rfl,rfl⟩) ?_;refine da ?_;refine d_nil ?_;refine wr (um (ub (u_nil ?_)));refine wc (fun hc13=>?_) (fun hc13=>?_)
   ·
    simp at hc13;have h0:0≤placeV (.mk kd it tx xs ns) s:=hc13;have hlt:=place_lt hmy s;obtain ⟨y,hy⟩:∃ y,xs[(placeV (.mk kd it tx xs ns) s).toNat]?=some y:=item_ex (xs:=xs) (j:=(placeV (.mk kd it tx xs ns) s).toNat) (by simp only [Val.items] at hlt;omega);have hym:mayV y=true:=may_item hmy (List.mem_of_getElem? hy);have hys:=sz_item (v:=(.mk kd it tx xs ns)) hy;refine WP.seq fun K14 hK14=>?_;refine WP.dr2 [.q 0 1,.q 0 1,.q 0 1,.q 0 1,.q 0 1,.q 0 1,.q 0 1,.q 0 1,.q 0 1,.q 0 1,.q 0 1,.q 0 2,.w 0,.w 1,.q 2 2] [12,13] ((((nk+1)+1)+1)+1) ((((nk+1)+1)+1)+1) tabOk (by kernel_rfl) rfl (by kernel_rfl) (by kernel_rfl) ?_;apply Exists.intro;apply Exists.intro;refine e_step2 rfl rfl (o_fa_loc rfl th27 rfl rfl th25 (by decide) hb2_4 ⟨rfl,rfl,rfl⟩) ?_ ?_;rotate_left;refine e_step2 rfl rfl (o_ld_loc rfl th25 rfl hb2_4 rfl ⟨rfl,rfl,rfl⟩) ?_ ?_;rotate_left;refine e_step2 rfl rfl (o_move rfl ⟨rfl,rfl,rfl⟩) ?_ ?_;rotate_left;refine e_step2 rfl rfl (o_ia_sl (a:=encV y) rfl rfl th25 rfl th27 rfl h0 (items_at (v:=(.mk kd it tx xs ns)) hy) ⟨rfl,rfl,rfl⟩) ?_ ?_;rotate_left;refine e_step2 rfl rfl (o_ld_el rfl th27 (by simp only [encV_leaf,TK.agg,Bool.not_true]) (by simp only [encV_width]) ⟨rfl,rfl,rfl⟩) ?_ ?_;rotate_left;refine e_step2 rfl rfl (o_move rfl ⟨rfl,rfl,rfl⟩) ?_ ?_;rotate_left;refine e_step2 rfl rfl (o_sl_tl rfl rfl th22 rfl th9 rfl ⟨rfl,rfl,rfl⟩) ?_ ?_;rotate_left;refine e_step2 rfl rfl (o_ld_agg rfl th27 rfl hb3_4 rfl rfl rfl ⟨rfl,rfl,rfl⟩) ?_ ?_;rotate_left;refine e_step2 rfl rfl (o_pcall (ih p y (.mk k2 i2 t2 xs2 ns2) hp2 hym (by omega)) rfl ⟨rfl,rfl,rfl⟩) ?_ ?_;rotate_left;refine e_step2 rfl rfl (o_moveV (v:=.tup _) rfl ⟨rfl,rfl,rfl⟩) ?_ ?_;rotate_left;refine e_step2 rfl rfl (o_ext rfl rfl ⟨rfl,rfl,rfl⟩) ?_ ?_;rotate_left;refine e_step3 rfl rfl rfl (o_ext rfl rfl ⟨rfl,rfl,rfl⟩) ?_ ?_ ?_;rotate_left 2;refine e_w rfl rfl (o_alloc th27 rfl ⟨rfl,rfl,rfl⟩) ?_;refine e_w0 rfl rfl (o_st_agg rfl (congrArg SV.d (encV_eq _)) th27 rfl (upd_same _ _ _) (by simp [valCells]) ⟨rfl,rfl,rfl⟩) ?_;refine e_step rfl (o_assign rfl ⟨rfl,rfl,rfl⟩) ?_;refine e_nil rfl fun o17 ho17=>?_;have hbb2_17:=(ho17 _).trans ((upd_ne _ _ (by omega)).trans ((upd_ne _ _ (by omega)).trans hb2_4));have hbb3_17:=(ho17 _).trans ((upd_ne _ _ (by omega)).trans ((upd_ne _ _ (by omega)).trans hb3_4));have hbb4_17:=(ho17 _).trans ((upd_ne _ _ (by omega)).trans ((upd_ne _ _ (by omega)).trans hb4));have hbb15_17:=(ho17 _).trans (upd_same _ _ _);have hk17:∀ t,t < nk→o17 t=o4 t:=fun t ht=>(ho17 t).trans ((upd_ne _ _ (by omega)).trans (upd_ne _ _ (by omega)))
    ·
     refine hK14 _ (wr (ug th27 hbb2_17 ?_));refine um (ug th27 hbb15_17 ?_);refine u_step (o_pcall (s168c (.mk kd it tx xs ns) (placeV (.mk kd it tx xs ns) s) _ h0 (by simp only [Val.items] at hlt ⊢;omega) hsz) rfl ?_);refine um ?_;refine u_step0 (g_sta rfl (congrArg SV.d (encV_eq _)) th27 rfl hbb4_17 (by simp [valCells]) fun o19 hb19 hk19=>?_);have hbb2_19:=(hk19 _ (by omega)).trans hbb2_17;have hbb3_19:=(hk19 _ (by omega)).trans hbb3_17;have hbb15_19:=(hk19 _ (by omega)).trans hbb15_17;refine ua (u_nil (WP.ret ?_));refine retC_ok (resis_agg rfl th27 rfl hb19 rfl rfl rfl) rfl ?_ ?_ (by omega) (fun t ht=>(hk19 t (by omega)).trans ((hk17 t (by omega)).trans ((hk4 t (by omega)).trans ((hk3 t (by omega)).trans ((hk2 t (by omega)))))))
     ·rw [setP_in h0 hy];first | rfl | exact (encV_eq _).symm
     ·rw [setP_in h0 hy]
    exact o_fa_loc rfl th27 rfl rfl th25 (by decide) ((upd_ne _ _ (by omega)).trans hb2_4) ⟨rfl,rfl,rfl⟩;exact o_ld_loc rfl th25 rfl ((upd_ne _ _ (by omega)).trans hb2_4) rfl ⟨rfl,rfl,rfl⟩;exact o_move rfl ⟨rfl,rfl,rfl⟩;exact o_ia_sl (a:=encV y) rfl rfl th25 rfl th27 rfl h0 (items_at (v:=(.mk kd it tx xs ns)) hy) ⟨rfl,rfl,rfl⟩;exact o_ld_el rfl th27 (by simp only [encV_leaf,TK.agg,Bool.not_true]) (by simp only [encV_width]) ⟨rfl,rfl,rfl⟩;exact o_move rfl ⟨rfl,rfl,rfl⟩;exact o_sl_tl rfl rfl th22 rfl th9 rfl ⟨rfl,rfl,rfl⟩;exact o_ld_agg rfl th27 rfl ((upd_ne _ _ (by omega)).trans hb3_4) rfl rfl rfl ⟨rfl,rfl,rfl⟩;exact o_pcall (ih p y (.mk k2 i2 t2 xs2 ns2) hp2 hym (by omega)) rfl ⟨rfl,rfl,rfl⟩;exact o_moveV (v:=.tup _) rfl ⟨rfl,rfl,rfl⟩;exact o_ext rfl rfl ⟨rfl,rfl,rfl⟩;exact o_ext rfl rfl ⟨rfl,rfl,rfl⟩;exact o_ext rfl rfl ⟨rfl,rfl,rfl⟩
   ·
    simp at hc13;have h0:¬ 0≤placeV (.mk kd it tx xs ns) s:=by omega
    refine WP.skip (hK10 _ (WP.seq fun K20 hK20=>?_));refine wr (uf th27 th3 hb2_4 ?_);refine ul th3 hb2_4 ?_;refine u_nil (WP.block (wr (ub (ua (u_nil ?_)))));refine wc (fun hc23=>?_) (fun hc23=>?_)
    ·
     simp at hc23;refine WP.seq fun K24 hK24=>?_;refine WP.dr2 [.q 0 1,.q 0 1,.q 0 1,.q 0 1,.q 0 1,.q 0 1,.q 0 1,.q 0 2,.w 0,.w 1,.q 2 2] [8,9] ((((nk+1)+1)+1)+1) ((((nk+1)+1)+1)+1) tabOk (by kernel_rfl) rfl (by kernel_rfl) (by kernel_rfl) ?_;apply Exists.intro;apply Exists.intro;refine e_step2 rfl rfl (o_pcall (s188) rfl ⟨rfl,rfl,rfl⟩) ?_ ?_;rotate_left;refine e_step2 rfl rfl (o_move rfl ⟨rfl,rfl,rfl⟩) ?_ ?_;rotate_left;refine e_step2 rfl rfl (o_sl_tl rfl rfl th22 rfl th9 rfl ⟨rfl,rfl,rfl⟩) ?_ ?_;rotate_left;refine e_step2 rfl rfl (o_ld_agg rfl th27 rfl hb3_4 rfl rfl rfl ⟨rfl,rfl,rfl⟩) ?_ ?_;rotate_left;refine e_step2 rfl rfl (o_pcall (ih p (.mk 7 0 [] [] []) (.mk k2 i2 t2 xs2 ns2) hp2 (by decide) (by decide)) rfl ⟨rfl,rfl,rfl⟩) ?_ ?_;rotate_left;refine e_step2 rfl rfl (o_moveV (v:=.tup _) rfl ⟨rfl,rfl,rfl⟩) ?_ ?_;rotate_left;refine e_step2 rfl rfl (o_ext rfl rfl ⟨rfl,rfl,rfl⟩) ?_ ?_;rotate_left;refine e_step3 rfl rfl rfl (o_ext rfl rfl ⟨rfl,rfl,rfl⟩) ?_ ?_ ?_;rotate_left 2;refine e_w rfl rfl (o_alloc th27 rfl ⟨rfl,rfl,rfl⟩) ?_;refine e_w0 rfl rfl (o_st_agg rfl (congrArg SV.d (encV_eq _)) th27 rfl (upd_same _ _ _) (by simp [valCells]) ⟨rfl,rfl,rfl⟩) ?_;refine e_step rfl (o_assign rfl ⟨rfl,rfl,rfl⟩) ?_;refine e_nil rfl fun o27 ho27=>?_;have hbb2_27:=(ho27 _).trans ((upd_ne _ _ (by omega)).trans ((upd_ne _ _ (by omega)).trans hb2_4));have hbb3_27:=(ho27 _).trans ((upd_ne _ _ (by omega)).trans ((upd_ne _ _ (by omega)).trans hb3_4));have hbb4_27:=(ho27 _).trans ((upd_ne _ _ (by omega)).trans ((upd_ne _ _ (by omega)).trans hb4));have hbb25_27:=(ho27 _).trans (upd_same _ _ _);have hk27:∀ t,t < nk→o27 t=o4 t:=fun t ht=>(ho27 t).trans ((upd_ne _ _ (by omega)).trans (upd_ne _ _ (by omega)))
     ·
      refine hK24 _ (WP.seq fun K28 hK28=>?_);refine WP.dr1 [.q 0 0,.q 0 0,.q 0 0,.q 0 0,.q 0 0,.q 0 0,.q 0 1,.w 0,.q 1 1] [7] ((((nk+1)+1)+1)+1) tabOk (by kernel_rfl) rfl (by kernel_rfl) (by kernel_rfl) ?_;apply Exists.intro;refine e_step rfl (o_ld_agg rfl th27 rfl hbb2_27 rfl rfl rfl ⟨rfl,rfl,rfl⟩) ?_;refine e_step rfl (o_move rfl ⟨rfl,rfl,rfl⟩) ?_;refine e_step rfl (o_ia_sl rfl rfl th22 rfl th9 rfl (by decide) rfl ⟨rfl,rfl,rfl⟩) ?_;refine e_step rfl (o_ld_el rfl th9 (by first | rfl | simp only [encV_leaf,encV_width,Bool.not_true,TK.agg]) (by first | rfl | simp only [encV_leaf,encV_width,Bool.not_true,TK.agg]) ⟨rfl,rfl,rfl⟩) ?_;refine e_step rfl (o_ld_agg rfl th27 rfl hbb25_27 rfl rfl rfl ⟨rfl,rfl,rfl⟩) ?_;refine e_step rfl (o_pcall (s189c (.mk kd it tx xs ns) s _ hsz) rfl ⟨rfl,rfl,rfl⟩) ?_;refine e_step2 rfl rfl (o_move rfl ⟨rfl,rfl,rfl⟩) ?_ ?_;rotate_left;refine e_w0 rfl rfl (o_st_agg rfl (congrArg SV.d (encV_eq _)) th27 rfl hbb4_27 (by simp [valCells]) ⟨rfl,rfl,rfl⟩) ?_;refine e_step rfl (o_assign rfl ⟨rfl,rfl,rfl⟩) ?_;refine e_nil rfl fun o30 ho30=>?_;have hbb2_30:=(ho30 _).trans ((upd_ne _ _ (by omega)).trans hbb2_27);have hbb3_30:=(ho30 _).trans ((upd_ne _ _ (by omega)).trans hbb3_27);have hbb25_30:=(ho30 _).trans ((upd_ne _ _ (by omega)).trans hbb25_27);have hbb4_30:=(ho30 _).trans (upd_same _ _ _);have hk30:∀ t,t < nk→o30 t=o27 t:=fun t ht=>(ho30 t).trans (upd_ne _ _ (by omega))
      ·
       refine hK28 _ (WP.ret ?_);refine retC_ok (resis_agg rfl th27 rfl hbb4_30 rfl rfl rfl) rfl ?_ ?_ (by omega) (fun t ht=>(hk30 t (by omega)).trans ((hk27 t (by omega)).trans ((hk4 t (by omega)).trans ((hk3 t (by omega)).trans ((hk2 t (by omega)))))))
       ·rw [setP_doc h0 hc23];first | rfl | exact (encV_eq _).symm
       ·rw [setP_doc h0 hc23]
      exact o_move rfl ⟨rfl,rfl,rfl⟩
     exact o_pcall (s188) rfl ⟨rfl,rfl,rfl⟩;exact o_move rfl ⟨rfl,rfl,rfl⟩;exact o_sl_tl rfl rfl th22 rfl th9 rfl ⟨rfl,rfl,rfl⟩;exact o_ld_agg rfl th27 rfl ((upd_ne _ _ (by omega)).trans hb3_4) rfl rfl rfl ⟨rfl,rfl,rfl⟩;exact o_pcall (ih p (.mk 7 0 [] [] []) (.mk k2 i2 t2 xs2 ns2) hp2 (by decide) (by decide)) rfl ⟨rfl,rfl,rfl⟩;exact o_moveV (v:=.tup _) rfl ⟨rfl,rfl,rfl⟩;exact o_ext rfl rfl ⟨rfl,rfl,rfl⟩;exact o_ext rfl rfl ⟨rfl,rfl,rfl⟩;exact o_ext rfl rfl ⟨rfl,rfl,rfl⟩
    ·
     simp at hc23;refine wr (ub (ua (u_nil ?_)));refine wc (fun hc32=>?_) (fun hc32=>?_)
     ·
      simp at hc32;refine wr (um ?_);refine u_step (o_ia_sl rfl rfl th22 rfl th9 rfl (by decide) rfl ?_);refine uL th9 ?_;refine u_step (o_pcall (s184t s) rfl ?_);refine u_step (o_moveV (v:=.tup _) rfl ?_);refine ue (ue (ua (ua (u_nil (wr (ug th27 hb2_4 ?_))))));refine ug th27 hb3_4 ?_;refine u_step (o_pcall (s189 (.mk kd it tx xs ns) [] (.mk k2 i2 t2 xs2 ns2) hsz) rfl ?_);refine um (um ?_);apply gT
      ·rfl
      ·intro hg;exact pm
      apply gT
      ·rfl
      ·intro hg;exact pf th27 th25 hb2_4
      apply gT
      ·rfl
      ·intro hg;try simp only [hg,ct,Bt]
       exact pl th25 hb2_4
      apply gT
      ·rfl
      ·intro hg;try simp only [hg,ct,Bt]
       exact pn th25
      apply gT
      ·rfl
      ·intro hg;try simp only [hg,ct,Bt]
       exact pb
      refine uA (um ?_);apply gT
      ·rfl
      ·intro hg;exact pm
      apply gT
      ·rfl
      ·intro hg;try simp only [hg,ct,Bt]
       exact pn th22
      apply gT
      ·rfl
      ·intro hg;try simp only [hg,ct,Bt]
       exact pb
      refine uA ?_;refine u_step0 (g_sta rfl (congrArg SV.d (encV_eq _)) th27 rfl hb4 (by simp [valCells]) fun o35 hb35 hk35=>?_);have hb2_35:=(hk35 _ (by omega)).trans hb2_4;have hb3_35:=(hk35 _ (by omega)).trans hb3_4;refine ua (u_nil (WP.ret ?_));refine retC_ok (resis_agg rfl th27 rfl hb35 rfl rfl rfl) rfl ?_ ?_ (by omega) (fun t ht=>(hk35 t (by omega)).trans ((hk4 t (by omega)).trans ((hk3 t (by omega)).trans ((hk2 t (by omega))))))
      ·rw [setP_arr h0 (by assumption) hc32];first | rfl | exact (encV_eq _).symm
      ·rw [setP_arr h0 (by assumption) hc32];refine congrArg D.bool ?_;rw [Bool.eq_iff_iff];simp [Val.items,encVs_length];exact fun _ _=>⟨fun h=>decide_eq_true h,fun h=>of_decide_eq_true h⟩
     ·
      simp at hc32;refine WP.skip (hK20 _ (wr (ug th27 hb2_4 ?_)));refine u_step0 (g_sta rfl rfl th27 rfl hb4 (by first | (simp;done) | (simp [D.leaves,D.width,valCells];done) | decide) fun o37 hb37 hk37=>?_);have hb2_37:=(hk37 _ (by omega)).trans hb2_4;have hb3_37:=(hk37 _ (by omega)).trans hb3_4;refine ua (u_nil (WP.ret ?_));refine retC_ok (resis_agg rfl th27 rfl hb37 rfl rfl rfl) rfl ?_ ?_ (by omega) (fun t ht=>(hk37 t (by omega)).trans ((hk4 t (by omega)).trans ((hk3 t (by omega)).trans ((hk2 t (by omega))))))
      ·rw [setP_no h0 (by assumption) hc32];first | rfl | exact (encV_eq _).symm
      ·rw [setP_no h0 (by assumption) hc32]
theorem s164 (p:List Str) (v x:Val) (hmy:mayV v=true) (hsz:szV v≤1099511627776):PSpec Tryz.prog 164 [.d (encV v),.d (.sl 1 (p.map .str)),.d (encV x)] (.tup (([encV (setP v p x).1,.bool (setP v p x).2]).map .d)):=s164A _ p v x (Nat.lt_succ_self _) hmy hsz
def zAgg:D:=.agg [.int .i64 0,.int .i64 0,.str [],.nil,.nil]
def chkT (v:Val) (p:List Str):Int:=if v.kind≠7∨mayV v=false then 20 else if pathV p then 0 else 40
theorem chkT_may {v:Val} {p:List Str} (h:chkT v p=0):mayV v=true∧v.kind=7∧pathV p=true:=by
 unfold chkT at h;split at h
 ·cases h
 ·rename_i h1;split at h
  ·rename_i h2;simp only [not_or,ne_eq,Decidable.not_not,Bool.not_eq_false] at h1;exact ⟨h1.2,h1.1,h2⟩
  ·cases h
def setD (v:Val) (p:List Str) (x:Val):D:=
 if v.kind=7∧mayV x=false then zAgg else if ¬ chkT v p=0 then zAgg else if (setP v p x).2=false then zAgg else encV (setP v p x).1
def setE (v:Val) (p:List Str) (x:Val):Int:=
 if v.kind=7∧mayV x=false then 20 else if ¬ chkT v p=0 then chkT v p else if (setP v p x).2=false then 40 else 0
theorem set_a {v:Val} {p:List Str} {x:Val} (h:v.kind=7∧mayV x=false):setD v p x=zAgg∧setE v p x=20:=⟨if_pos h,if_pos h⟩
theorem set_b {v:Val} {p:List Str} {x:Val} (h:¬ (v.kind=7∧mayV x=false)) (h2:¬ chkT v p=0):setD v p x=zAgg∧setE v p x=chkT v p:=by
 unfold setD setE;rw [if_neg h,if_neg h,if_pos h2,if_pos h2];exact ⟨rfl,rfl⟩
theorem set_c {v:Val} {p:List Str} {x:Val} (h:¬ (v.kind=7∧mayV x=false)) (h2:chkT v p=0) (h3:(setP v p x).2=false):setD v p x=zAgg∧setE v p x=40:=by
 have h4:¬ ¬ chkT v p=0:=fun e=>e h2;simp only [setD,setE,if_neg h,if_neg h4,if_pos h3,and_self]
theorem set_d {v:Val} {p:List Str} {x:Val} (h:¬ (v.kind=7∧mayV x=false)) (h2:chkT v p=0) (h3:(setP v p x).2=true):setD v p x=encV (setP v p x).1∧setE v p x=0:=by
 have h4:¬ ¬ chkT v p=0:=fun e=>e h2;have h5:¬ (setP v p x).2=false:=by simp [h3]
 simp only [setD,setE,if_neg h,if_neg h4,if_neg h5,and_self]
theorem fn131:FnOkC Tryz.prog 131 39 [.cell 6 27,.tmp 7] (bodyOf Tryz.f131):=⟨Tryz.f131,Tryz.func131,by kernel_rfl,by decide,by kernel_rfl,by kernel_rfl⟩
theorem s131 (v:Val) (p:List Str) (x:Val) (hsz:szV v≤1099511627776) (hsr:mayV v=true→szV (setP v p x).1≤1099511627776):PSpec Tryz.prog 131 [.d (encV v),.d (.sl 1 (p.map .str)),.d (encV x)] (.tup (([setD v p x,.int .i64 (setE v p x)]).map .d)):=by
 obtain ⟨kd,it,tx,xs,ns⟩:=v;obtain ⟨k2,i2,t2,xs2,ns2⟩:=x;refine PSpec.of2C tabOk fn131 (by simp) fun o nk=>?_;refine wr ?_;refine u_step (g_box rfl fun o2 hb2 hk2=>?_);refine u_step (g_box rfl fun o3 hb3 hk3=>?_);have hb2_3:=(hk3 _ (by omega)).trans hb2;refine u_step (g_alloc th27 rfl fun o4 hb4 hk4=>?_);have hb2_4:=(hk4 _ (by omega)).trans hb2_3;have hb3_4:=(hk4 _ (by omega)).trans hb3;refine ua (u_nil (WP.seq fun K5 hK5=>?_));refine wr (uf th27 th3 hb2_4 ?_);refine ul th3 hb2_4 ?_;refine ub (um ?_);apply gT
 ·rfl
 ·intro hg;exact pg th27 hb3_4
 apply gT
 ·rfl
 ·intro hg;try simp only [hg,ct,Bt]
  refine o_pcall (s76 (.mk k2 i2 t2 xs2 ns2)) rfl ⟨rfl,rfl,rfl⟩
 apply gT
 ·rfl
 ·intro hg;try simp only [hg,ct,Bt]
  exact pN
 refine uA ?_;refine u_nil ?_;refine wc (fun hc7=>?_) (fun hc7=>?_) <;> try simp only [Q0,Q1,Q2,Q3,Q4,Q5,Q6,Q7,Q8,ge_iff_le,gt_iff_lt] at hc7
 ·
  have hA:(kd=7∧mayV (.mk k2 i2 t2 xs2 ns2)=false):=by have hgo:=hc7;simpa using hgo
  refine wr ?_;refine u_step (o_bu rfl th27 rfl rfl ?_);refine u_step0 (g_sta rfl rfl th27 rfl hb4 (by first | (simp;done) | (simp [D.leaves,D.width,valCells];done) | decide) fun o9 hb9 hk9=>?_);have hb2_9:=(hk9 _ (by omega)).trans hb2_4;have hb3_9:=(hk9 _ (by omega)).trans hb3_4;refine ua (u_nil (WP.ret ?_));refine retC_ok (resis_agg rfl th27 rfl hb9 rfl rfl rfl) rfl ?_ ?_ (by omega) (fun t ht=>(hk9 t (by omega)).trans ((hk4 t (by omega)).trans ((hk3 t (by omega)).trans ((hk2 t (by omega))))))
  ·rw [(set_a (v:=(.mk kd it tx xs ns)) (p:=p) (x:=(.mk k2 i2 t2 xs2 ns2)) hA).1];first | rfl | exact (encV_eq _).symm
  ·rw [(set_a (v:=(.mk kd it tx xs ns)) (p:=p) (x:=(.mk k2 i2 t2 xs2 ns2)) hA).2] <;> rfl
 ·
  have hA:¬ (kd=7∧mayV (.mk k2 i2 t2 xs2 ns2)=false):=by have hgo:=hc7;simpa using hgo
  refine WP.skip ?_;refine hK5 _ ?_;refine WP.seq fun K10 hK10=>?_;refine wr ?_;refine ug th27 hb2_4 ?_;refine um ?_;refine u_step (o_pcall (s155 (.mk kd it tx xs ns) p) rfl ?_);refine ua ?_;refine u_nil ?_;refine wr ?_;refine um ?_;refine ub ?_;refine u_nil ?_;refine wc (fun hc13=>?_) (fun hc13=>?_) <;> try simp only [Q0,Q1,Q2,Q3,Q4,Q5,Q6,Q7,Q8,ge_iff_le,gt_iff_lt] at hc13
  ·
   have hz:¬ chkT (.mk kd it tx xs ns) p=0:=by have hgo:=hc13;intro e;unfold chkT at e;rw [e] at hgo;simp at hgo
   refine wr ?_;refine u_step (o_bu rfl th27 rfl rfl ?_);refine um ?_;refine u_step0 (g_sta rfl rfl th27 rfl hb4 (by first | (simp;done) | (simp [D.leaves,D.width,valCells];done) | decide) fun o15 hb15 hk15=>?_);have hb2_15:=(hk15 _ (by omega)).trans hb2_4;have hb3_15:=(hk15 _ (by omega)).trans hb3_4;refine ua (u_nil (WP.ret ?_));refine retC_ok (resis_agg rfl th27 rfl hb15 rfl rfl rfl) rfl ?_ ?_ (by omega) (fun t ht=>(hk15 t (by omega)).trans ((hk4 t (by omega)).trans ((hk3 t (by omega)).trans ((hk2 t (by omega))))))
   ·rw [(set_b (v:=(.mk kd it tx xs ns)) (p:=p) (x:=(.mk k2 i2 t2 xs2 ns2)) hA hz).1];first | rfl | exact (encV_eq _).symm
   ·rw [(set_b (v:=(.mk kd it tx xs ns)) (p:=p) (x:=(.mk k2 i2 t2 xs2 ns2)) hA hz).2] <;> rfl
  ·
   have hz:chkT (.mk kd it tx xs ns) p=0:=by have hgo:=hc13;unfold chkT;simpa using hgo
   refine WP.skip ?_;refine hK10 _ ?_;refine wr ?_;refine ug th27 hb2_4 ?_;refine um ?_;refine ug th27 hb3_4 ?_;refine u_step (o_pcall (s164 p (.mk kd it tx xs ns) (.mk k2 i2 t2 xs2 ns2) (chkT_may hz).1 hsz) rfl ?_);refine u_step (o_moveV (v:=.tup _) rfl ?_);refine ue ?_;refine ue ?_;refine u_step (g_alloc th27 rfl fun o17 hb17 hk17=>?_);have hb2_17:=(hk17 _ (by omega)).trans hb2_4;have hb3_17:=(hk17 _ (by omega)).trans hb3_4;have hb4_17:=(hk17 _ (by omega)).trans hb4;refine u_step0 (g_sta rfl (congrArg SV.d (encV_eq _)) th27 rfl hb17 (by simp [valCells]) fun o18 hb18 hk18=>?_);have hb2_18:=(hk18 _ (by omega)).trans hb2_17;have hb3_18:=(hk18 _ (by omega)).trans hb3_17;have hb4_18:=(hk18 _ (by omega)).trans hb4_17;refine ua ?_;refine u_nil ?_;refine WP.seq fun K19 hK19=>?_;refine wr ?_;refine um ?_;refine uN ?_;refine u_nil ?_;refine wc (fun hc21=>?_) (fun hc21=>?_) <;> try simp only [Q0,Q1,Q2,Q3,Q4,Q5,Q6,Q7,Q8,ge_iff_le,gt_iff_lt] at hc21
   ·
    have hy:(setP (.mk kd it tx xs ns) p (.mk k2 i2 t2 xs2 ns2)).2=false:=by have hgo:=hc21;simpa using hgo
    refine wr ?_;refine u_step (o_bu rfl th27 rfl rfl ?_);refine u_step0 (g_sta rfl rfl th27 rfl hb4_18 (by first | (simp;done) | (simp [D.leaves,D.width,valCells];done) | decide) fun o23 hb23 hk23=>?_);have hb2_23:=(hk23 _ (by omega)).trans hb2_18;have hb3_23:=(hk23 _ (by omega)).trans hb3_18;have hb18_23:=(hk23 _ (by omega)).trans hb18;refine ua (u_nil (WP.ret ?_));refine retC_ok (resis_agg rfl th27 rfl hb23 rfl rfl rfl) rfl ?_ ?_ (by omega) (fun t ht=>(hk23 t (by omega)).trans ((hk18 t (by omega)).trans ((hk17 t (by omega)).trans ((hk4 t (by omega)).trans ((hk3 t (by omega)).trans ((hk2 t (by omega))))))))
    ·rw [(set_c (v:=(.mk kd it tx xs ns)) (p:=p) (x:=(.mk k2 i2 t2 xs2 ns2)) hA hz hy).1];first | rfl | exact (encV_eq _).symm
    ·rw [(set_c (v:=(.mk kd it tx xs ns)) (p:=p) (x:=(.mk k2 i2 t2 xs2 ns2)) hA hz hy).2] <;> rfl
   ·
    have hy:(setP (.mk kd it tx xs ns) p (.mk k2 i2 t2 xs2 ns2)).2=true:=by have hgo:=hc21;simpa using hgo
    refine WP.skip (hK19 _ (wr (ug th27 hb18 ?_)));refine u_step (o_pcall (pv (v:=(setP (.mk kd it tx xs ns) p (.mk k2 i2 t2 xs2 ns2)).1) (s77 _ (hsr (chkT_may hz).1))) rfl ?_);refine u_step0 (g_sta rfl (congrArg SV.d (encV_eq _)) th27 rfl hb4_18 (by simp [valCells]) fun o25 hb25 hk25=>?_);have hb2_25:=(hk25 _ (by omega)).trans hb2_18;have hb3_25:=(hk25 _ (by omega)).trans hb3_18;have hb18_25:=(hk25 _ (by omega)).trans hb18;refine ua (u_nil (WP.ret ?_));refine retC_ok (resis_agg rfl th27 rfl hb25 rfl rfl rfl) rfl ?_ ?_ (by omega) (fun t ht=>(hk25 t (by omega)).trans ((hk18 t (by omega)).trans ((hk17 t (by omega)).trans ((hk4 t (by omega)).trans ((hk3 t (by omega)).trans ((hk2 t (by omega))))))))
    ·rw [(set_d (v:=(.mk kd it tx xs ns)) (p:=p) (x:=(.mk k2 i2 t2 xs2 ns2)) hA hz hy).1];first | rfl | exact (encV_eq _).symm
    ·rw [(set_d (v:=(.mk kd it tx xs ns)) (p:=p) (x:=(.mk k2 i2 t2 xs2 ns2)) hA hz hy).2] <;> rfl
section
variable {P:Program} {Θ:Tab} {K:SV→(Nat→Option AO)→Nat→Prop} {sl:Nat→SV} {o:Nat→Option AO} {nk:Nat} {x y lo hi mx:Operand} {t e:Nat}
theorem bnd_is {y m:Nat} (h:m≤y):bnd y (SV.d (D.int .i64 (m:Int)))=some m:=by
 simp only [bnd];rw [if_pos (by omega)];simp
theorem o_slv_lhm {i j:TI} {q z a b e2:Nat} {xs:List D} (hx:ev sl x=.row q) (ho:o q=some (.row e2 z xs)) (hlo:ev sl lo=.d (.int .i64 (a:Int))) (hhi:ev sl hi=.d (.int .i64 (b:Int))) (hmx:ev sl mx=.d (.int .i64 (xs.length:Int))) (hi':Θ t=some i) (hk:i.k=.slice e) (hj:Θ e=some j) (hz:j.sz=z) (hab:a≤b) (hb:b≤xs.length)
    (h:K (.view q a (b - a) (if xs.length=b then .exact else .unk)) o nk):vOp P Θ (.slice t x (some lo) (some hi) (some mx)) ⟨sl,o,nk⟩ K:=by
  refine .inr (.inl ⟨_,?_,h⟩);subst hz;have h1:viewOf o j.sz (.row q)=some (q,0,xs.length,.full,xs):=by simp [viewOf,ho]
  have h2:vbnd xs.length xs.length (some (.d (.int .i64 (a:Int)))) (some (.d (.int .i64 (b:Int)))) (some (.d (.int .i64 (xs.length:Int))))=some (a,b,some xs.length):=by
    delta vbnd
    simp only [bnd_is (Nat.le_refl _),bnd_is hb,bnd_is hab,Option.map_some]
  simp only [nQ,hi',hk,hj,hx,h1,Option.map_some,hlo,hhi,hmx,VC.cap,Nat.sub_zero,h2,VC.cut,Nat.zero_add]
theorem o_slv_h {i j:TI} {q z b e2:Nat} {xs:List D} (hx:ev sl x=.row q) (ho:o q=some (.row e2 z xs)) (hhi:ev sl hi=.d (.int .i64 (b:Int))) (hi':Θ t=some i) (hk:i.k=.slice e) (hj:Θ e=some j) (hz:j.sz=z) (hb:b≤xs.length)
    (h:K (.view q 0 b .full) o nk):vOp P Θ (.slice t x none (some hi) none) ⟨sl,o,nk⟩ K:=by
  refine .inr (.inl ⟨_,?_,h⟩);subst hz;have h1:viewOf o j.sz (.row q)=some (q,0,xs.length,.full,xs):=by simp [viewOf,ho]
  have h2:vbnd xs.length xs.length none (some (.d (.int .i64 (b:Int)))) none=some (0,b,none):=by
    delta vbnd
    simp only [bnd_is hb]
  simp only [nQ,hi',hk,hj,hx,h1,Option.map_some,Option.map_none,hhi,VC.cap,Nat.sub_zero,h2,VC.cut,Nat.zero_add]
theorem o_slv_l {i j:TI} {q z a e2:Nat} {xs:List D} (hx:ev sl x=.row q) (ho:o q=some (.row e2 z xs)) (hlo:ev sl lo=.d (.int .i64 (a:Int))) (hi':Θ t=some i) (hk:i.k=.slice e) (hj:Θ e=some j) (hz:j.sz=z) (ha:a≤xs.length)
    (h:K (.view q a (xs.length - a) .full) o nk):vOp P Θ (.slice t x (some lo) none none) ⟨sl,o,nk⟩ K:=by
  refine .inr (.inl ⟨_,?_,h⟩);subst hz;have h1:viewOf o j.sz (.row q)=some (q,0,xs.length,.full,xs):=by simp [viewOf,ho]
  have h2:vbnd xs.length xs.length (some (.d (.int .i64 (a:Int)))) none none=some (a,xs.length,none):=by
    delta vbnd
    simp only [bnd_is ha]
  simp only [nQ,hi',hk,hj,hx,h1,Option.map_some,Option.map_none,hlo,VC.cap,Nat.sub_zero,h2,VC.cut,Nat.zero_add]
theorem o_slvv {i j:TI} {q z m a b e2:Nat} {xs:List D} (hx:ev sl x=.view q 0 m .full) (ho:o q=some (.row e2 z xs)) (hm:m≤xs.length) (hlo:ev sl lo=.d (.int .i64 (a:Int))) (hhi:ev sl hi=.d (.int .i64 (b:Int))) (hi':Θ t=some i) (hk:i.k=.slice e) (hj:Θ e=some j) (hz:j.sz=z) (hab:a≤b) (hb:b≤xs.length)
    (h:K (.view q a (b - a) .full) o nk):vOp P Θ (.slice t x (some lo) (some hi) none) ⟨sl,o,nk⟩ K:=by
  refine .inr (.inl ⟨_,?_,h⟩);subst hz;have h1:viewOf o j.sz (.view q 0 m .full)=some (q,0,m,.full,xs):=by simp [viewOf,ho,hm]
  have h2:vbnd m xs.length (some (.d (.int .i64 (a:Int)))) (some (.d (.int .i64 (b:Int)))) none=some (a,b,none):=by
    delta vbnd
    simp only [bnd_is hb,bnd_is hab]
  simp only [nQ,hi',hk,hj,hx,h1,Option.map_some,Option.map_none,hlo,hhi,VC.cap,Nat.sub_zero,h2,VC.cut,Nat.zero_add]
theorem o_len_v {i:TI} {q l m z e2:Nat} {c:VC} {xs:List D} (hx:ev sl x=.view q l m c) (ho:o q=some (.row e2 z xs)) (hi:Θ t=some i) (hk:i.k=.slice e) (h:K (.d (.int .i64 (m:Int))) o nk):vOp P Θ (.call { callee:=.builtin .len,args:=#[x],argTypes:=#[t] }) ⟨sl,o,nk⟩ K:=by
 refine .inr (.inl ⟨.d (.int .i64 (m:Int)),?_,h⟩);simp only [nQ,hi,hk,hx,ho]
theorem w_apv {i j:TI} {q z a b:Nat} {xs:List D} (hx:ev sl x=.view q 0 a .full) (hy:ev sl y=.view q b (xs.length - b) .full) (ho:o q=some (.row e z xs)) (hi:Θ t=some i) (hk:i.k=.slice e) (hj:Θ e=some j) (hz:j.sz=z) (hpos:0 < j.sz) (hzD:(zD j).isSome=true) (hzl:zLen j=true) (hab:a≤b) (hb:b≤xs.length)
    (h:K (.view q 0 (a+(xs.length - b)) .full) (upd o q (some (.row e z (xs.take a++xs.drop b++xs.drop (a+(xs.length - b)))))) nk):vOp P Θ (.call { callee:=.builtin .append,args:=#[x,y],argTypes:=#[t,t] }) ⟨sl,o,nk⟩ K:=by
  subst hz;obtain ⟨zz,hzz⟩:=Option.isSome_iff_exists.1 hzD;have hv:viewOf o j.sz (.view q b (xs.length - b) .full)=some (q,b,xs.length - b,.full,xs):=by simp [viewOf,ho];omega
  have hv2:viewOf o j.sz (.view q 0 a .full)=some (q,0,a,.full,xs):=by simp [viewOf,ho];omega
  have hs:srcN o j.sz (.view q b (xs.length - b) .full)=some (xs.drop b):=by
    simp only [srcN,hv];rw [List.take_of_length_le (by simp)]
  cases hd:xs.drop b with
  | nil=>
    have hbl:xs.length - b=0:=by have:=congrArg List.length hd;simpa using this
    refine .inr (.inr ⟨(.view q 0 a .full,[],nk),nW_of0 ?_,?_⟩)
    · simp only [nW0,hi,hk,hj,hzz,hx,hy,if_true,hs,hd,hpos,hzl,and_self,hv2,ho]
    · have e1:xs.take a++xs.drop b++xs.drop (a+(xs.length - b))=xs:=by rw [hd,hbl];simp
      rw [e1,hbl] at h;have e2:upd o q (some (.row e j.sz xs))=o:=by
        funext u;by_cases hu:u=q
        · subst hu;rw [upd_same,ho]
        · exact upd_ne _ _ hu
      rw [e2] at h;exact h
  | cons y0 r=>
    have hl:r.length+1=xs.length - b:=by have:=congrArg List.length hd;simpa using this.symm
    refine .inr (.inr ⟨(.view q 0 (a+(xs.length - b)) .full,[(q,some (.row e j.sz (xs.take a++xs.drop b++xs.drop (a+(xs.length - b)))))],nk),nW_of0 ?_,h⟩);simp only [nW0,hi,hk,hj,hzz,hx,hy,if_true,hs,hd,hpos,hzl,and_self,hv2,ho];rw [if_pos ⟨trivial,trivial,by simp;omega⟩];simp only [List.length_cons,hl,Nat.zero_add]
theorem g_clear {i j:TI} {q z l m e2:Nat} {c:VC} {zz:D} {xs:List D} (hx:ev sl x=.view q l m c) (ho:o q=some (.row e2 z xs)) (hi:Θ t=some i) (hk:i.k=.slice e) (hj:Θ e=some j) (hz:j.sz=z) (hzD:zD j=some zz) (hw:zz.width=j.sz) (hb:l+m≤xs.length)
    (h:∀ o1,o1 q=some (.row e2 z (xs.take l++List.replicate m zz++xs.drop (l+m)))→(∀ u,u≠q→o1 u=o u)→K (.tup []) o1 nk):vOp P Θ (.call { callee:=.builtin .clear,args:=#[x],argTypes:=#[t] }) ⟨sl,o,nk⟩ K:=by
  subst hz;have hv:viewOf o j.sz (.view q l m c)=some (q,l,m,c,xs):=by simp [viewOf,ho,hb]
  refine .inr (.inr ⟨(.tup [],[(q,some (.row e2 j.sz (xs.take l++List.replicate m zz++xs.drop (l+m))))],nk),nW_of0 ?_,h _ (upd_same _ _ _) fun u hu=>upd_ne _ _ hu⟩);simp only [nW0,hi,hk,hj,hzD,hx,hv,hw,if_true,ho]
end
def delA (xs:List D) (i:Nat):List D:=xs.take i++xs.drop (i+1)++xs.drop (i+(xs.length - (i+1)))
def delB (zz:D) (xs:List D) (i:Nat):List D:=(delA xs i).take (i+(xs.length - (i+1)))++List.replicate (xs.length - (i+(xs.length - (i+1)))) zz++(delA xs i).drop (i+(xs.length - (i+1))+(xs.length - (i+(xs.length - (i+1)))))
theorem delA_len {xs:List D} {i:Nat} (h:i < xs.length):(delA xs i).length=xs.length:=by simp [delA];omega
theorem delB_take {zz:D} {xs:List D} {i:Nat} (h:i < xs.length):(delB zz xs i).take (i+(xs.length - (i+1)))=xs.eraseIdx i:=by
 have h1:((delA xs i).take (i+(xs.length - (i+1)))).length=i+(xs.length - (i+1)):=by rw [List.length_take,delA_len h];omega
 rw [delB,List.append_assoc,List.take_left' h1];have h2:(xs.take i++xs.drop (i+1)).length=i+(xs.length - (i+1)):=by simp;omega
 rw [delA,List.take_left' h2,List.eraseIdx_eq_take_drop_succ]
theorem delB_len {zz:D} {xs:List D} {i:Nat} (h:i < xs.length):(delB zz xs i).length=xs.length:=by
 simp only [delB,List.length_append,List.length_take,List.length_replicate,List.length_drop,delA_len h];omega
theorem fn191:FnOk Tryz.prog 191 33 [6] (bodyOf Tryz.f191):=⟨Tryz.f191,Tryz.func191,by kernel_rfl,by decide,by kernel_rfl,by kernel_rfl⟩
theorem s191 (xs:List D) (i:Nat) (o:Nat→Option AO) (nk q:Nat) (hq:o q=some (.row 27 5 xs)) (hqn:q < nk) (hi:i < xs.length) (hsz:xs.length≤1099511627776):Spec Tryz.prog 191 [.row q,.d (.int .i64 (i:Int)),.d (.int .i64 ((i+1:Nat):Int))] o nk (fun r' o' nk'=>r'=.view q 0 (i+(xs.length - (i+1))) .full∧nk≤nk'∧o' q=some (.row 27 5 (delB (.agg [.int .i64 0,.int .i64 0,.str [],.nil,.nil]) xs i))∧∀ t,t < nk∧t≠q→o' t=o t):=by
 have hal:=delA_len hi;refine Spec.of_body fn191 (by simp) ?_;refine wr ?_;refine ua ?_;refine u_nil ?_;refine wr ?_;refine uR ?_;refine um ?_;refine um ?_;refine uR ?_;refine u_step (o_len_row rfl th25 rfl hq ?_);refine u_step (o_slv_lhm rfl hq rfl rfl rfl th25 rfl th27 rfl (by omega) (by omega) ?_);refine u_nil ?_;refine WP.seq fun K3 hK3=>?_;refine wr ?_;refine um ?_;refine um ?_;refine ub ?_;refine u_nil ?_;refine wc (fun hc5=>?_) (fun hc5=>?_) <;> try simp only [Q0,Q1,Q2,Q3,Q4,Q5,Q6,Q7,Q8,ge_iff_le,gt_iff_lt] at hc5
 ·
  exfalso;have hgo:=hc5
  first | omega | (simp at hgo;done) | (simp at hgo;omega)
 ·
  refine WP.skip (hK3 _ (wr (uR ?_)));refine u_step (o_len_row rfl th25 rfl hq ?_);refine ua (u_nil (WP.seq fun K7 hK7=>?_));refine WP.dr1 [.q 0 0,.q 0 0,.q 0 0,.q 0 0,.q 0 0,.q 0 0,.w 0,.q 1 1] [6] nk tabOk (by kernel_rfl) rfl (by kernel_rfl) (by kernel_rfl) ?_;apply Exists.intro;refine e_step rfl (o_moveV (v:=.row _) rfl ⟨rfl,rfl,rfl⟩) ?_;refine e_step rfl (o_move rfl ⟨rfl,rfl,rfl⟩) ?_;refine e_step rfl (o_slv_h rfl hq rfl th25 rfl th27 rfl (by omega) ⟨rfl,rfl,rfl⟩) ?_;refine e_step rfl (o_moveV (v:=.row _) rfl ⟨rfl,rfl,rfl⟩) ?_;refine e_step rfl (o_move rfl ⟨rfl,rfl,rfl⟩) ?_;refine e_step rfl (o_slv_l rfl hq rfl th25 rfl th27 rfl (by omega) ⟨rfl,rfl,rfl⟩) ?_;refine e_w rfl rfl (w_apv rfl rfl hq th25 rfl th27 rfl (by decide) rfl rfl (by omega) (by omega) ⟨rfl,rfl,rfl⟩) ?_;refine e_step rfl (o_assignV (v:=.view _ _ _ _) rfl ⟨rfl,rfl,rfl⟩) ?_;refine e_nil rfl fun o9 ho9=>?_;have hbr0_9:=(ho9 _).trans (upd_same _ _ _);have hk9:∀ t,t < nk∧t≠q→o9 t=o t:=fun t ht=>(ho9 t).trans (upd_ne _ _ (by omega));refine hK7 _ ?_;have hrA:o9 q=some (AO.row 27 5 (delA xs i)):=hbr0_9;refine wr ?_;refine u_step (o_moveV (v:=.view _ _ _ _) rfl ?_);refine u_step (o_moveV (v:=.view _ _ _ _) rfl ?_);refine u_step (o_len_v rfl hrA th25 rfl ?_);refine um ?_;refine u_step (o_slvv rfl hrA (by omega) rfl rfl th25 rfl th27 rfl (by omega) (by omega) ?_);refine u_step0 (g_clear rfl hrA th25 rfl th27 rfl rfl rfl (by omega) fun o11 hb11 hk11=>?_);refine u_nil (wr ?_);refine u_step (o_moveV (v:=.view _ _ _ _) rfl ?_);refine u_step (o_assignV (v:=.view _ _ _ _) rfl ?_);refine u_nil (WP.ret ?_);exact ⟨rfl,Nat.le_refl _,hb11,(fun t ht=>(hk11 t (by omega)).trans ((hk9 t (by omega))))⟩
theorem fn193:FnOk Tryz.prog 193 33 [6] (bodyOf Tryz.f193):=⟨Tryz.f193,Tryz.func193,by kernel_rfl,by decide,by kernel_rfl,by kernel_rfl⟩
theorem s193 (xs:List D) (i:Nat) (o:Nat→Option AO) (nk q:Nat) (hq:o q=some (.row 9 1 xs)) (hqn:q < nk) (hi:i < xs.length) (hsz:xs.length≤1099511627776):Spec Tryz.prog 193 [.row q,.d (.int .i64 (i:Int)),.d (.int .i64 ((i+1:Nat):Int))] o nk (fun r' o' nk'=>r'=.view q 0 (i+(xs.length - (i+1))) .full∧nk≤nk'∧o' q=some (.row 9 1 (delB (.str []) xs i))∧∀ t,t < nk∧t≠q→o' t=o t):=by
 have hal:=delA_len hi;refine Spec.of_body fn193 (by simp) ?_;refine wr ?_;refine ua ?_;refine u_nil ?_;refine wr ?_;refine uR ?_;refine um ?_;refine um ?_;refine uR ?_;refine u_step (o_len_row rfl th22 rfl hq ?_);refine u_step (o_slv_lhm rfl hq rfl rfl rfl th22 rfl th9 rfl (by omega) (by omega) ?_);refine u_nil ?_;refine WP.seq fun K3 hK3=>?_;refine wr ?_;refine um ?_;refine um ?_;refine ub ?_;refine u_nil ?_;refine wc (fun hc5=>?_) (fun hc5=>?_) <;> try simp only [Q0,Q1,Q2,Q3,Q4,Q5,Q6,Q7,Q8,ge_iff_le,gt_iff_lt] at hc5
 ·
  exfalso;have hgo:=hc5
  first | omega | (simp at hgo;done) | (simp at hgo;omega)
 ·
  refine WP.skip (hK3 _ (wr (uR ?_)));refine u_step (o_len_row rfl th22 rfl hq ?_);refine ua (u_nil (WP.seq fun K7 hK7=>?_));refine WP.dr1 [.q 0 0,.q 0 0,.q 0 0,.q 0 0,.q 0 0,.q 0 0,.w 0,.q 1 1] [6] nk tabOk (by kernel_rfl) rfl (by kernel_rfl) (by kernel_rfl) ?_;apply Exists.intro;refine e_step rfl (o_moveV (v:=.row _) rfl ⟨rfl,rfl,rfl⟩) ?_;refine e_step rfl (o_move rfl ⟨rfl,rfl,rfl⟩) ?_;refine e_step rfl (o_slv_h rfl hq rfl th22 rfl th9 rfl (by omega) ⟨rfl,rfl,rfl⟩) ?_;refine e_step rfl (o_moveV (v:=.row _) rfl ⟨rfl,rfl,rfl⟩) ?_;refine e_step rfl (o_move rfl ⟨rfl,rfl,rfl⟩) ?_;refine e_step rfl (o_slv_l rfl hq rfl th22 rfl th9 rfl (by omega) ⟨rfl,rfl,rfl⟩) ?_;refine e_w rfl rfl (w_apv rfl rfl hq th22 rfl th9 rfl (by decide) rfl rfl (by omega) (by omega) ⟨rfl,rfl,rfl⟩) ?_;refine e_step rfl (o_assignV (v:=.view _ _ _ _) rfl ⟨rfl,rfl,rfl⟩) ?_;refine e_nil rfl fun o9 ho9=>?_;have hbr0_9:=(ho9 _).trans (upd_same _ _ _);have hk9:∀ t,t < nk∧t≠q→o9 t=o t:=fun t ht=>(ho9 t).trans (upd_ne _ _ (by omega));refine hK7 _ ?_;have hrA:o9 q=some (AO.row 9 1 (delA xs i)):=hbr0_9;refine wr ?_;refine u_step (o_moveV (v:=.view _ _ _ _) rfl ?_);refine u_step (o_moveV (v:=.view _ _ _ _) rfl ?_);refine u_step (o_len_v rfl hrA th22 rfl ?_);refine um ?_;refine u_step (o_slvv rfl hrA (by omega) rfl rfl th22 rfl th9 rfl (by omega) (by omega) ?_);refine u_step0 (g_clear rfl hrA th22 rfl th9 rfl rfl rfl (by omega) fun o11 hb11 hk11=>?_);refine u_nil (wr ?_);refine u_step (o_moveV (v:=.view _ _ _ _) rfl ?_);refine u_step (o_assignV (v:=.view _ _ _ _) rfl ?_);refine u_nil (WP.ret ?_);exact ⟨rfl,Nat.le_refl _,hb11,(fun t ht=>(hk11 t (by omega)).trans ((hk9 t (by omega))))⟩
section
variable {P:Program} {Θ:Tab} {K:SV→(Nat→Option AO)→Nat→Prop} {sl:Nat→SV} {o:Nat→Option AO} {nk:Nat} {x y:Operand} {t e:Nat}
theorem g_stW {i:TI} {k g q l m e z:Nat} {c:VC} {xs:List D} {cs:List SV} (hx:ev sl x=.loc k g) (hy:ev sl y=.view q l m c) (hq:o q=some (.row e z xs)) (hi:Θ t=some i) (hs:i.sz=1) (ho:o k=some (.box cs)) (hle:g < cs.length) (h:∀ o1,o1 k=some (.box (cs.take g++[.view q l m c]++cs.drop (g+1)))→(∀ u,u≠k→o1 u=o u)→K .any o1 nk):vOp P Θ (.store t x y) ⟨sl,o,nk⟩ K:=by
 refine Or.inl ?_;refine ⟨i,[.view q l m c],hi,?_,hs.symm,?_⟩
 ·show (ev sl y).cells o=_;rw [hy];simp [SV.cells,hq]
 ·show (match ev sl x with | .loc k f=>_ | _=>False);rw [hx];exact ⟨cs,ho,by simp;omega,h _ (upd_same _ _ _) fun u hu=>upd_ne _ _ hu⟩
theorem g_vcall {g:FuncId} {asx:Array Operand} {ts:Array Nat} {us:List SV} {R:SV} {q:Nat} {X:AO} (hs:Spec P g us o nk fun r' o' nk'=>r'=R∧nk≤nk'∧o' q=some X∧∀ t,t < nk∧t≠q→o' t=o t) (ha:asx.toList.map (ev sl)=us)
    (h:∀ o1 nk1,nk≤nk1→o1 q=some X→(∀ t,t < nk→t≠q→o1 t=o t)→K R o1 nk1):vOp P Θ (.call { callee:=.value (.func g),args:=asx,argTypes:=ts }) ⟨sl,o,nk⟩ K:=
  o_call hs ha (by rintro r' o' nk' ⟨rfl,h1,h2,h3⟩;exact h o' nk' h1 h2 fun t ht hq=>h3 t ⟨ht,hq⟩)
end
theorem addN {i:Nat} (h:i≤1099511627776):intBin .add .i64 (i:Int) 1=some (.int .i64 ((i+1:Nat):Int)):=by
 show some (D.int .i64 (IntKind.i64.wrap ((i:Int)+1)))=_;rw [wrap_i64 (by omega) (by omega)];simp
theorem delPart {z:Nat} {zz:D} {ys:List D} {i:Nat} (h:i < ys.length):(D.sl z (delB zz ys i)).part 0 (i+(ys.length - (i+1)))=.d (.sl z (ys.eraseIdx i)):=by
 have hl:=delB_len (zz:=zz) h;simp only [D.part];rw [if_pos (by omega),List.drop_zero,delB_take h]
theorem encVs_erase (xs:List Val) (i:Nat):(encVs xs).eraseIdx i=encVs (xs.eraseIdx i):=by
 rw [encVs_map,encVs_map,List.eraseIdx_eq_take_drop_succ,List.eraseIdx_eq_take_drop_succ];simp
theorem strs_erase (ns:List Str) (i:Nat):(ns.map D.str).eraseIdx i=(ns.eraseIdx i).map D.str:=by
 rw [List.eraseIdx_eq_take_drop_succ,List.eraseIdx_eq_take_drop_succ];simp
def nullV:Val:=.mk 1 0 [] [] []
def withoutV (v:Val) (i:Nat):Val:=if v.kind=6 then swapV v i nullV else .mk v.kind v.int v.text (v.items.eraseIdx i) (v.names.eraseIdx i)
theorem s168n (v:Val) (j:Nat) (hj:j < v.items.length) (hsz:szV v≤1099511627776):PSpec Tryz.prog 168 [.d (encV v),.d (.int .i64 (j:Int)),.d (.agg [.int .i64 1,.int .i64 0,.str [],.nil,.nil])] (.d (encV (swapV v j nullV))):=
 (s168 v j nullV hj hsz).le ⟨D.le_refl _,D.le_refl _,by simp [SV.le,D.le,D.les,nullV,encV,encVs],trivial⟩
theorem s127r (ns:List D) (hne:ns≠[]) (hsz:ns.length≤1099511627776):RSpec Tryz.prog 127 [.d (.sl 1 ns)] 9 1 (ns):=by
 refine RSpec.of fn127 (by simp) fun o nk=>?_;refine wr ?_;refine ua ?_;refine u_nil ?_;refine WP.seq fun K2 hK2=>?_;refine wr ?_;refine um ?_;refine u_step (o_eqnil rfl rfl th22 rfl fun nb4 hnb4=>?_);refine u_nil ?_;refine wc (fun hc5=>?_) (fun hc5=>?_) <;> try simp only [Q0,Q1,Q2,Q3,Q4,Q5,Q6,Q7,Q8,ge_iff_le,gt_iff_lt] at hc5
 ·
  exact absurd (hnb4 hc5) hne
 ·
  refine WP.skip (hK2 _ (wr ?_));refine u_step (g_bs0 th22 rfl th9 rfl rfl (by decide) fun o7 hb7 hk7=>?_);refine um ?_;refine u_step (g_ap rfl rfl th22 rfl th9 rfl rfl (by decide) rfl hb7 (by simp only [List.length_nil];omega) (by simp only [List.length_nil];omega) fun o8 hb8 hk8=>?_);refine uS (u_nil (WP.ret ?_));refine rrow_okx rfl (by omega) (by omega) hb8 (fun t ht=>(hk8 t (by omega) (by omega)).trans ((hk7 t (by omega)))) ?_;simp
theorem fn166:FnOkC Tryz.prog 166 29 [.cell 4 27] (bodyOf Tryz.f166):=⟨Tryz.f166,Tryz.func166,by kernel_rfl,by decide,by kernel_rfl,by kernel_rfl⟩
theorem s166 (v:Val) (i:Nat) (hi:i < v.items.length) (hmy:mayV v=true) (hk:v.kind=6∨v.kind=7) (hsz:szV v≤1099511627776):PSpec Tryz.prog 166 [.d (encV v),.d (.int .i64 (i:Int))] (.d (encV (withoutV v i))):=by
 obtain ⟨kd,it,tx,xs,ns⟩:=v;have hi2:i < xs.length:=hi;have hsz2:1+tx.length+szVs xs+szN ns≤1099511627776:=hsz;have hxl:=szVs_len xs;have hnl:=szN_len ns;have hln:=encVs_length xs;refine PSpec.ofC1 tabOk fn166 (by simp) fun o nk=>?_;refine wr ?_;refine u_step (g_box rfl fun o2 hb2 hk2=>?_);refine u_step (g_alloc th27 rfl fun o3 hb3 hk3=>?_);have hb2_3:=(hk3 _ (by omega)).trans hb2;refine u_nil (WP.seq fun K4 hK4=>?_);refine wr (uf th27 th3 hb2_3 ?_);refine ul th3 hb2_3 ?_;refine ub (u_nil ?_);refine wc (fun hc6=>?_) (fun hc6=>?_)
 ·
  simp at hc6;refine WP.seq fun K7 hK7=>?_;refine WP.dr1 [.q 0 0,.q 0 0,.q 0 0,.q 0 0,.w 0] [4] ((nk+1)+1) tabOk (by kernel_rfl) rfl (by kernel_rfl) (by kernel_rfl) ?_;apply Exists.intro;refine e_step rfl (o_ld_agg rfl th27 rfl hb2_3 rfl rfl rfl ⟨rfl,rfl,rfl⟩) ?_;refine e_step rfl (o_move rfl ⟨rfl,rfl,rfl⟩) ?_;refine e_step rfl (o_pcall (s190) rfl ⟨rfl,rfl,rfl⟩) ?_;refine e_step rfl (o_pcall (s168n (.mk kd it tx xs ns) i hi2 hsz) rfl ⟨rfl,rfl,rfl⟩) ?_;refine e_w0 rfl rfl (o_st_agg rfl (congrArg SV.d (encV_eq _)) th27 rfl hb3 (by simp [valCells]) ⟨rfl,rfl,rfl⟩) ?_;refine e_nil rfl fun o9 ho9=>?_;have hbb2_9:=(ho9 _).trans ((upd_ne _ _ (by omega)).trans hb2_3);have hbb3_9:=(ho9 _).trans (upd_same _ _ _);have hk9:∀ t,t < nk→o9 t=o3 t:=fun t ht=>(ho9 t).trans (upd_ne _ _ (by omega));refine hK7 _ (WP.ret ?_);refine retC1_ok (resis_agg rfl th27 rfl hbb3_9 rfl rfl rfl) ?_ (by omega) (fun t ht=>(hk9 t (by omega)).trans ((hk3 t (by omega)).trans ((hk2 t (by omega)))));have hw:withoutV (.mk kd it tx xs ns) i=swapV (.mk kd it tx xs ns) i nullV:=if_pos hc6;rw [hw];exact (encV_eq _).symm
 ·
  simp at hc6;have hk7:kd=7:=by rcases hk with h | h;exact absurd h hc6;exact h
  have hn7:=may7k hmy hk7;refine WP.skip (hK4 _ (wr (uf th27 th25 hb2_3 ?_)));refine ul th25 hb2_3 ?_;refine u_step (o_rcall (s192r (encVs xs) (by intro e;rw [e] at hln;simp at hln;omega) (by omega)) rfl fun q11 o11 nk11 hqa11 hqb11 hb11 hk11=>?_);have hb2_11:=(hk11 _ (by omega)).trans hb2_3;have hb3_11:=(hk11 _ (by omega)).trans hb3;refine um (um ?_);refine u_step (o_bin_int rfl rfl (by decide) (addN (by omega)) ?_);refine u_step (g_vcall (s191 (encVs xs) i _ _ _ hb11 (by omega) (by omega) (by omega)) rfl fun o12 nk12 hn12 hb12 hk12=>?_);have hb2_12:=(hk12 _ (by omega) (by omega)).trans hb2_11;have hb3_12:=(hk12 _ (by omega) (by omega)).trans hb3_11;refine uf th27 th25 hb2_12 ?_;refine u_step0 (g_stW rfl rfl hb12 th25 rfl hb2_12 (by simp) fun o13 hb13 hk13=>?_);have hb3_13:=(hk13 _ (by omega)).trans hb3_12;have hb12_13:=(hk13 _ (by omega)).trans hb12;refine u_nil (wr (uf th27 th22 hb13 ?_));refine ul th22 hb13 ?_;refine u_step (o_rcall (s127r (ns.map D.str) (by intro e;have:=congrArg List.length e;simp at this;simp [this] at hn7;omega) (by simp;omega)) rfl fun q15 o15 nk15 hqa15 hqb15 hb15 hk15=>?_);have hb3_15:=(hk15 _ (by omega)).trans hb3_13;have hb12_15:=(hk15 _ (by omega)).trans hb12_13;have hb13_15:=(hk15 _ (by omega)).trans hb13;refine um (um ?_);refine u_step (o_bin_int rfl rfl (by decide) (addN (by omega)) ?_);refine u_step (g_vcall (s193 (ns.map D.str) i _ _ _ hb15 (by omega) (by simp;omega) (by simp;omega)) rfl fun o16 nk16 hn16 hb16 hk16=>?_);have hb3_16:=(hk16 _ (by omega) (by omega)).trans hb3_15;have hb12_16:=(hk16 _ (by omega) (by omega)).trans hb12_15;have hb13_16:=(hk16 _ (by omega) (by omega)).trans hb13_15;refine uf th27 th22 hb13_16 ?_;refine u_step0 (g_stW rfl rfl hb16 th22 rfl hb13_16 (by simp) fun o17 hb17 hk17=>?_);have hb3_17:=(hk17 _ (by omega)).trans hb3_16;have hb12_17:=(hk17 _ (by omega)).trans hb12_16;have hb16_17:=(hk17 _ (by omega)).trans hb16;refine u_nil ?_;have hne:¬ q15=q11:=by omega
  have hln2:i < (encVs xs).length:=by omega
  have hln3:i < (ns.map D.str).length:=by simp;omega
  have hF0:∀ t,t < nk→o17 t=o t:=(fun t ht=>(hk17 t (by omega)).trans ((hk16 t (by omega) (by omega)).trans ((hk15 t (by omega)).trans ((hk13 t (by omega)).trans ((hk12 t (by omega) (by omega)).trans ((hk11 t (by omega)).trans ((hk3 t (by omega)).trans ((hk2 t (by omega))))))))));have hB7:o17 nk=some (.box [.d (.int .i64 kd),.d (.int .i64 it),.d (.str tx),.view q11 0 (i+((encVs xs).length - (i+1))) .full,.view q15 0 (i+((ns.map D.str).length - (i+1))) .full]):=hb17;refine WP.frzL [(2,.loc nk 0),(4,.loc (nk+1) 0)] nk hb12_17 (by simp only [List.forall_mem_cons];exact ⟨rfl,rfl,by simp⟩) fun o8 h81 h82=>?_;have hB8:o8 nk=some (.box [.d (.int .i64 kd),.d (.int .i64 it),.d (.str tx),.d (.sl 5 (encVs (xs.eraseIdx i))),.view q15 0 (i+((ns.map D.str).length - (i+1))) .full]):=by rw [h82 nk (by omega) (Nat.le_refl _),hB7];simp only [Option.map_some,AO.frz,List.map_cons,List.map_nil,SV.frz,if_true,if_neg hne];rw [delPart hln2,encVs_erase]
  have hR8:o8 q15=some (.row 9 1 (delB (.str []) (ns.map D.str) i)):=by rw [h82 q15 (by omega) (by omega),hb16_17];rfl
  have hZ8:o8 (nk+1)=some (.box [.d (.int .i64 0),.d (.int .i64 0),.d (.str []),.d .nil,.d .nil]):=by rw [h82 (nk+1) (by omega) (by omega),hb3_17];rfl
  refine WP.frzL [(2,.loc nk 0),(4,.loc (nk+1) 0)] nk hR8 (by simp only [List.forall_mem_cons];exact ⟨rfl,rfl,by simp⟩) fun o9 h91 h92=>?_;have hB9:o9 nk=some (.box [.d (.int .i64 kd),.d (.int .i64 it),.d (.str tx),.d (.sl 5 (encVs (xs.eraseIdx i))),.d (.sl 1 ((ns.eraseIdx i).map D.str))]):=by rw [h92 nk (by omega) (Nat.le_refl _),hB8];simp only [Option.map_some,AO.frz,List.map_cons,List.map_nil,SV.frz,if_true];rw [delPart hln3,strs_erase]
  have hZ9:o9 (nk+1)=some (.box [.d (.int .i64 0),.d (.int .i64 0),.d (.str []),.d .nil,.d .nil]):=by rw [h92 (nk+1) (by omega) (by omega),hZ8];rfl
  have hF9:∀ t,t < nk→o9 t=o t:=fun t ht=>(h91 t (by omega) ht).trans ((h81 t (by omega) ht).trans (hF0 t ht));refine wr (ug th27 hB9 ?_);refine u_step0 (g_sta rfl rfl th27 rfl hZ9 (by first | (simp;done) | (simp [D.leaves,D.width,valCells];done) | decide) fun o19 hb19 hk19=>?_);have hB9_19:=(hk19 _ (by omega)).trans hB9;refine u_nil (WP.ret ?_);refine retC1_ok (resis_agg rfl th27 rfl hb19 rfl rfl rfl) ?_ (by omega) (fun t ht=>(hk19 t (by omega)).trans ((hF9 t (by omega))));have hw:withoutV (.mk kd it tx xs ns) i=.mk kd it tx (xs.eraseIdx i) (ns.eraseIdx i):=if_neg (by show ¬ kd=6;omega);rw [hw];rfl
def atV (f:Val→Nat→Val):Val→List Str→Val
 | v,[]=>v
 | v,s :: p=>if placeV v s < 0 then v else if p=[] then f v (placeV v s).toNat else swapV v (placeV v s).toNat (atV f (v.items.getD (placeV v s).toNat v) p)
theorem at_no {f:Val→Nat→Val} {v:Val} {s:Str} {p:List Str} (h:placeV v s < 0):atV f v (s :: p)=v:=by rw [atV,if_pos h]
theorem at_in {f:Val→Nat→Val} {v y:Val} {s:Str} {p:List Str} (h:¬ placeV v s < 0) (hp:¬ p=[]) (hy:v.items[(placeV v s).toNat]?=some y):atV f v (s :: p)=swapV v (placeV v s).toNat (atV f y p):=by
 rw [atV,if_neg h,if_neg hp,List.getD_eq_getElem?_getD,hy];rfl
theorem at_do {f:Val→Nat→Val} {v:Val} {s:Str} (h:¬ placeV v s < 0):atV f v [s]=f v (placeV v s).toNat:=by rw [atV,if_neg h,if_pos rfl]
theorem place_kind {v:Val} {s:Str} (h:0≤placeV v s):v.kind=6∨v.kind=7:=by
 unfold placeV at h;split at h
 ·right;assumption
 ·split at h
  ·left;assumption
  ·omega
def DoOk (g:FuncId) (fs cs:List SV) (f:Val→Nat→Val) (ks:List Nat) (o0:Nat→Option AO):Prop:=
 ∀ (o:Nat→Option AO) (nk:Nat) (v:Val) (i:Int),(∀ t,t∈ks→t < nk∧o t=o0 t)→0≤i→i.toNat < v.items.length→mayV v=true→(v.kind=6∨v.kind=7)→szV v≤1099511627776→Spec Tryz.prog g (fs++[.d (encV v),.d (.int .i64 i)]++cs) o nk fun r' o' nk'=>r'=.d (encV (f v i.toNat))∧o'=o∧nk'=nk
theorem s168i (v:Val) (i:Int) (x:Val) (h0:0≤i) (hj:i.toNat < v.items.length) (hsz:szV v≤1099511627776):PSpec Tryz.prog 168 [.d (encV v),.d (.int .i64 i),.d (encV x)] (.d (encV (swapV v i.toNat x))):=by
 have h:=s168 v i.toNat x hj hsz;rw [Int.toNat_of_nonneg h0] at h;exact h
theorem fn165:FnOkC Tryz.prog 165 37 [.cell 6 27] (bodyOf Tryz.f165):=⟨Tryz.f165,Tryz.func165,by kernel_rfl,by decide,by kernel_rfl,by kernel_rfl⟩
theorem s165s (g:FuncId) (fs cs:List SV) (f:Val→Nat→Val) (ks:List Nat) (o0:Nat→Option AO) (hdo:DoOk g fs cs f ks o0) (s:Str) (p:List Str) (v:Val) (o:Nat→Option AO) (nk:Nat) (hks:∀ t,t∈ks→t < nk∧o t=o0 t) (hmy:mayV v=true) (hsz:szV v≤1099511627776) (ih:¬ p=[]→∀ (v1:Val) (o1:Nat→Option AO) (nk1:Nat),(∀ t,t∈ks→t < nk1∧o1 t=o0 t)→mayV v1=true→szV v1≤1099511627776→Spec Tryz.prog 165 [.d (encV v1),.d (.sl 1 (p.map .str)),.clo g fs cs] o1 nk1 (fun r' o' nk'=>r'=.d (encV (atV f v1 p))∧o'=o1∧nk'=nk1)):Spec Tryz.prog 165 [.d (encV v),.d (.sl 1 ((s :: p).map .str)),.clo g fs cs] o nk (fun r' o' nk'=>r'=.d (encV (atV f v (s :: p)))∧o'=o∧nk'=nk):=by
 obtain ⟨kd,it,tx,xs,ns⟩:=v;refine Spec.pure (fun _=>trivial) rfl (Spec.of_bodyC tabOk fn165 (by simp) ?_);refine wr ?_;refine u_step (g_box rfl fun o2 hb2 hk2=>?_);refine u_step (g_alloc th27 rfl fun o3 hb3 hk3=>?_);have hb2_3:=(hk3 _ (by omega)).trans hb2;refine u_nil (wd ?_);refine dg th27 hb2_3 ?_;refine dm ?_;refine d_step (o_ia_sl rfl rfl th22 rfl th9 rfl (by decide) rfl ⟨rfl,rfl,rfl⟩) ?_;refine dL th9 ?_;refine d_step (o_pcall (s156 (.mk kd it tx xs ns) s) rfl ⟨rfl,rfl,rfl⟩) ?_;refine da ?_;refine d_nil ?_;refine WP.seq fun K5 hK5=>?_;refine WP.block (wr (um (ub (ua (u_nil ?_)))));refine wc (fun hc7=>?_) (fun hc7=>?_)
 ·
  simp at hc7;have h0:placeV (.mk kd it tx xs ns) s < 0:=hc7;refine wr (ug th27 hb2_3 ?_);refine u_step0 (g_sta rfl rfl th27 rfl hb3 (by first | (simp;done) | (simp [D.leaves,D.width,valCells];done) | decide) fun o9 hb9 hk9=>?_);have hb2_9:=(hk9 _ (by omega)).trans hb2_3;refine u_nil (WP.ret ?_);refine retC1_ok (resis_agg rfl th27 rfl hb9 rfl rfl rfl) ?_ (by omega) (fun t ht=>(hk9 t (by omega)).trans ((hk3 t (by omega)).trans ((hk2 t (by omega)))));rw [at_no h0];first | rfl | exact (encV_eq _).symm
 ·
  simp at hc7;have h0:¬ placeV (.mk kd it tx xs ns) s < 0:=by omega
  have hlt:=place_lt hmy s;obtain ⟨y,hy⟩:∃ y,xs[(placeV (.mk kd it tx xs ns) s).toNat]?=some y:=item_ex (xs:=xs) (j:=(placeV (.mk kd it tx xs ns) s).toNat) (by simp only [Val.items] at hlt;omega);have hym:mayV y=true:=may_item hmy (List.mem_of_getElem? hy);have hys:=sz_item (v:=(.mk kd it tx xs ns)) hy;refine wr (um (un th22 ?_));refine ub (ua (u_nil ?_));refine wc (fun hc11=>?_) (fun hc11=>?_)
  ·
   simp at hc11;have hp:¬ p=[]:=by intro e;subst e;simp at hc11
   refine WP.seq fun K12 hK12=>?_;have hF5:∀ t,t < nk→o3 t=o t:=(fun t ht=>(hk3 t (by omega)).trans ((hk2 t (by omega))));have hks5:∀ t,t∈ks→t < ((nk+1)+1)∧o3 t=o0 t:=fun t ht=>⟨by have:=(hks t ht).1;omega,(hF5 t (hks t ht).1).trans (hks t ht).2⟩;refine WP.dr1 [.q 0 0,.q 0 0,.q 0 0,.q 0 0,.q 0 0,.q 0 0,.q 0 0,.q 0 0,.q 0 0,.q 0 0,.q 0 0,.q 0 0,.w 0] [12] ((nk+1)+1) tabOk (by kernel_rfl) rfl (by kernel_rfl) (by kernel_rfl) ?_;apply Exists.intro;refine e_step rfl (o_ld_agg rfl th27 rfl hb2_3 rfl rfl rfl ⟨rfl,rfl,rfl⟩) ?_;refine e_step rfl (o_move rfl ⟨rfl,rfl,rfl⟩) ?_;refine e_step rfl (o_fa_loc rfl th27 rfl rfl th25 (by decide) hb2_3 ⟨rfl,rfl,rfl⟩) ?_;refine e_step rfl (o_ld_loc rfl th25 rfl hb2_3 rfl ⟨rfl,rfl,rfl⟩) ?_;refine e_step rfl (o_move rfl ⟨rfl,rfl,rfl⟩) ?_;refine e_step rfl (o_ia_sl (a:=encV y) rfl rfl th25 rfl th27 rfl (by omega) (items_at (v:=(.mk kd it tx xs ns)) hy) ⟨rfl,rfl,rfl⟩) ?_;refine e_step rfl (o_ld_el rfl th27 (by simp only [encV_leaf,TK.agg,Bool.not_true]) (by simp only [encV_width]) ⟨rfl,rfl,rfl⟩) ?_;refine e_step rfl (o_move rfl ⟨rfl,rfl,rfl⟩) ?_;refine e_step rfl (o_sl_tl rfl rfl th22 rfl th9 rfl ⟨rfl,rfl,rfl⟩) ?_;refine e_step rfl (o_moveV (v:=.clo _ _ _) rfl ⟨rfl,rfl,rfl⟩) ?_;refine e_step rfl (o_scall (ih hp y _ _ hks5 hym (by omega)) rfl ⟨rfl,rfl,rfl⟩) ?_;refine e_step rfl (o_pcall (s168i (.mk kd it tx xs ns) (placeV (.mk kd it tx xs ns) s) _ (by omega) (by simp only [Val.items] at hlt ⊢;omega) hsz) rfl ⟨rfl,rfl,rfl⟩) ?_;refine e_w0 rfl rfl (o_st_agg rfl (congrArg SV.d (encV_eq _)) th27 rfl hb3 (by simp [valCells]) ⟨rfl,rfl,rfl⟩) ?_;refine e_nil rfl fun o14 ho14=>?_;have hbb2_14:=(ho14 _).trans ((upd_ne _ _ (by omega)).trans hb2_3);have hbb3_14:=(ho14 _).trans (upd_same _ _ _);have hk14:∀ t,t < nk→o14 t=o3 t:=fun t ht=>(ho14 t).trans (upd_ne _ _ (by omega));refine hK12 _ (WP.ret ?_);refine retC1_ok (resis_agg rfl th27 rfl hbb3_14 rfl rfl rfl) ?_ (by omega) (fun t ht=>(hk14 t (by omega)).trans ((hk3 t (by omega)).trans ((hk2 t (by omega)))));rw [at_in h0 hp hy];first | rfl | exact (encV_eq _).symm
  ·
   simp at hc11;have hp:p=[]:=List.length_eq_zero_iff.1 (by omega);refine WP.skip (hK5 _ ?_);have hF6:∀ t,t < nk→o3 t=o t:=(fun t ht=>(hk3 t (by omega)).trans ((hk2 t (by omega))));have hks6:∀ t,t∈ks→t < ((nk+1)+1)∧o3 t=o0 t:=fun t ht=>⟨by have:=(hks t ht).1;omega,(hF6 t (hks t ht).1).trans (hks t ht).2⟩;refine wr ?_;refine u_step (o_moveV (v:=.clo _ _ _) rfl ?_);refine ug th27 hb2_3 ?_;refine um ?_;refine u_step (o_sclo rfl (hdo _ _ (.mk kd it tx xs ns) (placeV (.mk kd it tx xs ns) s) hks6 (by omega) (by simp only [Val.items] at hlt ⊢;omega) hmy (place_kind (by omega)) hsz) rfl ?_);refine u_step0 (g_sta rfl (congrArg SV.d (encV_eq _)) th27 rfl hb3 (by simp [valCells]) fun o16 hb16 hk16=>?_);have hb2_16:=(hk16 _ (by omega)).trans hb2_3;refine u_nil (WP.ret ?_);subst hp;refine retC1_ok (resis_agg rfl th27 rfl hb16 rfl rfl rfl) ?_ (by omega) (fun t ht=>(hk16 t (by omega)).trans ((hk3 t (by omega)).trans ((hk2 t (by omega)))));rw [at_do h0];first | rfl | exact (encV_eq _).symm
theorem s165 (g:FuncId) (fs cs:List SV) (f:Val→Nat→Val) (ks:List Nat) (o0:Nat→Option AO) (hdo:DoOk g fs cs f ks o0):∀ (p:List Str) (v:Val) (o:Nat→Option AO) (nk:Nat),¬ p=[]→(∀ t,t∈ks→t < nk∧o t=o0 t)→mayV v=true→szV v≤1099511627776→Spec Tryz.prog 165 [.d (encV v),.d (.sl 1 (p.map .str)),.clo g fs cs] o nk (fun r' o' nk'=>r'=.d (encV (atV f v p))∧o'=o∧nk'=nk)
 | [],_,_,_,h,_,_,_=>absurd rfl h
 | s :: p,v,o,nk,_,hks,hmy,hsz=>s165s g fs cs f ks o0 hdo s p v o nk hks hmy hsz fun hp v1 o1 nk1 h1 h2 h3=>s165 g fs cs f ks o0 hdo p v1 o1 nk1 hp h1 h2 h3
theorem path_ne {p:List Str} (h:pathV p=true):¬ p=[]:=by rintro rfl;simp [pathV] at h
theorem do_without (o0:Nat→Option AO):DoOk 166 [] [] withoutV [] o0:=fun o nk v i _ h0 hi hm hk hsz=>by
 have h:=s166 v i.toNat hi hm hk hsz;rw [Int.toNat_of_nonneg h0] at h;exact h o nk
def dropD (v:Val) (p:List Str):D:=if chkT v p=0 then encV (atV withoutV v p) else zAgg
def cutI (n:Nat) (y:Val):Val:=.mk y.kind y.int y.text (y.items.take n) y.names
def cutV (n:Nat) (v:Val) (i:Nat):Val:=if (v.items.getD i v).kind≠6∨(v.items.getD i v).items.length≤n then v else swapV v i (cutI n (v.items.getD i v))
theorem encVs_take (xs:List Val) (n:Nat):(encVs xs).take n=encVs (xs.take n):=by rw [encVs_map,encVs_map,List.map_take]
theorem o_sl_hdV {P:Program} {Θ:Tab} {K:SV→(Nat→Option AO)→Nat→Prop} {sl:Nat→SV} {o:Nat→Option AO} {nk:Nat} {x hi2:Operand} {t e:Nat} {i j:TI} {z:Nat} {ys:List Val} {n:Int} (hx:ev sl x=.d (.sl z (encVs ys))) (hhi:ev sl hi2=.d (.int .i64 n)) (hi:Θ t=some i) (hk:i.k=.slice e) (hj:Θ e=some j) (hz:j.sz=z) (h0:0≤n) (hn:n.toNat≤ys.length) (h:K (.d (.sl z (encVs (ys.take n.toNat)))) o nk):vOp P Θ (.slice t x none (some hi2) none) ⟨sl,o,nk⟩ K:=by
 refine o_sl_sl (m:=n.toNat) (p:=0) hx hi hk hj hz ?_ rfl ?_
 ·simp only [Option.map_some,bndO,hhi,bnd,encVs_length];rw [if_pos (by omega)]
 ·rw [List.drop_zero,encVs_take];exact h
theorem cut_no {n:Nat} {v y:Val} {i:Nat} (hy:v.items[i]?=some y) (h:y.kind≠6∨y.items.length≤n):cutV n v i=v:=by
 have e:v.items.getD i v=y:=by rw [List.getD_eq_getElem?_getD,hy];rfl
 rw [cutV,e,if_pos h]
theorem cut_yes {n:Nat} {v y:Val} {i:Nat} (hy:v.items[i]?=some y) (h:¬ (y.kind≠6∨y.items.length≤n)):cutV n v i=swapV v i (cutI n y):=by
 have e:v.items.getD i v=y:=by rw [List.getD_eq_getElem?_getD,hy];rfl
 rw [cutV,e,if_neg h]
def cutD (v:Val) (p:List Str) (n:Int):D:=if chkT v p=0∧0≤n then encV (atV (cutV n.toNat) v p) else zAgg
def cutE (v:Val) (p:List Str) (n:Int):Int:=if chkT v p=0 then (if n < 0 then 1 else 0) else chkT v p
theorem fn132:FnOkC Tryz.prog 132 18 [.cell 4 27,.tmp 5] (bodyOf Tryz.f132):=⟨Tryz.f132,Tryz.func132,by kernel_rfl,by decide,by kernel_rfl,by kernel_rfl⟩
theorem s132 (v:Val) (p:List Str) (hsz:szV v≤1099511627776) (hsr:mayV v=true→szV (atV withoutV v p)≤1099511627776):PSpec Tryz.prog 132 [.d (encV v),.d (.sl 1 (p.map .str))] (.tup (([dropD v p,.int .i64 (chkT v p)]).map .d)):=by
 obtain ⟨kd,it,tx,xs,ns⟩:=v;refine PSpec.of2C tabOk fn132 (by simp) fun o nk=>?_;refine wr ?_;refine u_step (g_box rfl fun o2 hb2 hk2=>?_);refine u_step (g_alloc th27 rfl fun o3 hb3 hk3=>?_);have hb2_3:=(hk3 _ (by omega)).trans hb2;refine ua ?_;refine u_nil ?_;refine WP.seq fun K4 hK4=>?_;refine wr ?_;refine ug th27 hb2_3 ?_;refine um ?_;refine u_step (o_pcall (s155 (.mk kd it tx xs ns) p) rfl ?_);refine ua ?_;refine u_nil ?_;refine wr ?_;refine um ?_;refine ub ?_;refine u_nil ?_;refine wc (fun hc7=>?_) (fun hc7=>?_) <;> try simp only [Q0,Q1,Q2,Q3,Q4,Q5,Q6,Q7,Q8,ge_iff_le,gt_iff_lt] at hc7
 ·
  have hz:¬ chkT (.mk kd it tx xs ns) p=0:=by have hgo:=hc7;intro e;unfold chkT at e;rw [e] at hgo;simp at hgo
  refine wr ?_;refine u_step (o_bu rfl th27 rfl rfl ?_);refine um ?_;refine u_step0 (g_sta rfl rfl th27 rfl hb3 (by first | (simp;done) | (simp [D.leaves,D.width,valCells];done) | decide) fun o9 hb9 hk9=>?_);have hb2_9:=(hk9 _ (by omega)).trans hb2_3;refine ua (u_nil (WP.ret ?_));refine retC_ok (resis_agg rfl th27 rfl hb9 rfl rfl rfl) rfl ?_ ?_ (by omega) (fun t ht=>(hk9 t (by omega)).trans ((hk3 t (by omega)).trans ((hk2 t (by omega)))))
  ·rw [dropD,if_neg hz];rfl
  ·rfl
 ·
  have hz:chkT (.mk kd it tx xs ns) p=0:=by have hgo:=hc7;unfold chkT;simpa using hgo
  refine WP.skip (hK4 _ (wr (ug th27 hb2_3 ?_)));refine um ?_;refine u_step (o_scall (s165 166 [] [] withoutV [] (fun _=>none) (do_without _) p (.mk kd it tx xs ns) _ _ (path_ne (chkT_may hz).2.2) (fun t ht=>by cases ht) (chkT_may hz).1 hsz) rfl ?_);refine u_step (o_pcall (s77 _ (hsr (chkT_may hz).1)) rfl ?_);refine u_step0 (g_sta rfl (congrArg SV.d (encV_eq _)) th27 rfl hb3 (by simp [valCells]) fun o11 hb11 hk11=>?_);have hb2_11:=(hk11 _ (by omega)).trans hb2_3;refine ua (u_nil (WP.ret ?_));refine retC_ok (resis_agg rfl th27 rfl hb11 rfl rfl rfl) rfl ?_ ?_ (by omega) (fun t ht=>(hk11 t (by omega)).trans ((hk3 t (by omega)).trans ((hk2 t (by omega)))))
  ·rw [dropD,if_pos hz];first | rfl | exact (encV_eq _).symm
  ·rw [hz]
theorem fn167:FnOkC Tryz.prog 167 32 [.cell 5 27] (bodyOf Tryz.f167):=⟨Tryz.f167,Tryz.func167,by kernel_rfl,by decide,by kernel_rfl,by kernel_rfl⟩
theorem s167 (v:Val) (i:Int) (n:Int) (k:Nat) (o:Nat→Option AO) (nk:Nat) (hkn:k < nk) (hK:o k=some (.box [.d (.int .i64 n)])) (hn:0≤n) (h0:0≤i) (hi:i.toNat < v.items.length) (hsz:szV v≤1099511627776):Spec Tryz.prog 167 [.d (encV v),.d (.int .i64 i),.loc k 0] o nk (fun r' o' nk'=>r'=.d (encV (cutV n.toNat v i.toNat))∧o'=o∧nk'=nk):=by
 obtain ⟨kd,it,tx,xs,ns⟩:=v;obtain ⟨y,hy⟩:∃ y,xs[i.toNat]?=some y:=item_ex (xs:=xs) (j:=i.toNat) hi;obtain ⟨ky,iy,ty,ys,ny⟩:=y;refine Spec.pure (fun _=>trivial) rfl (Spec.of_bodyC tabOk fn167 (by simp) ?_);refine wr ?_;refine u_step (g_box rfl fun o2 hb2 hk2=>?_);have hK_2:=(hk2 _ (by omega)).trans hK;refine u_step (g_alloc th27 rfl fun o3 hb3 hk3=>?_);have hK_3:=(hk3 _ (by omega)).trans hK_2;have hb2_3:=(hk3 _ (by omega)).trans hb2;refine u_nil (wr (uf th27 th25 hb2_3 ?_));refine ul th25 hb2_3 ?_;refine um ?_;refine u_step (o_ia_sl (a:=encV (.mk ky iy ty ys ny)) rfl rfl th25 rfl th27 rfl h0 (items_at (v:=(.mk kd it tx xs ns)) hy) ?_);refine uL th27 ?_;refine u_step (g_alloc th27 rfl fun o5 hb5 hk5=>?_);have hK_5:=(hk5 _ (by omega)).trans hK_3;have hb2_5:=(hk5 _ (by omega)).trans hb2_3;have hb3_5:=(hk5 _ (by omega)).trans hb3;refine u_step0 (g_sta rfl rfl th27 rfl hb5 (by first | (simp;done) | (simp [D.leaves,D.width,valCells];done) | decide) fun o6 hb6 hk6=>?_);have hK_6:=(hk6 _ (by omega)).trans hK_5;have hb2_6:=(hk6 _ (by omega)).trans hb2_5;have hb3_6:=(hk6 _ (by omega)).trans hb3_5;refine u_nil (WP.seq fun K7 hK7=>?_);refine wr (uf th27 th3 hb6 ?_);refine ul th3 hb6 ?_;refine ub (um ?_);apply gF
 ·rfl
 ·intro hg;exact pf th27 th25 hb6
 apply gF
 ·rfl
 ·intro hg;try simp only [hg,ct,Bt]
  exact pl th25 hb6
 apply gF
 ·rfl
 ·intro hg;try simp only [hg,ct,Bt]
  exact pn th25
 apply gF
 ·rfl
 ·intro hg;exact pl th3 hK_6
 apply gF
 ·rfl
 ·intro hg;try simp only [hg,ct,Bt]
  exact pb
 refine uO ?_;refine u_nil ?_;refine wc (fun hc9=>?_) (fun hc9=>?_) <;> try simp only [Q0,Q1,Q2,Q3,Q4,Q5,Q6,Q7,Q8,ge_iff_le,gt_iff_lt] at hc9
 ·
  have hgA:ky≠6∨ys.length≤n.toNat:=by have hgo:=hc9;simp [encVs_length] at hgo;omega
  refine wr (ug th27 hb2_6 ?_);refine u_step0 (g_sta rfl rfl th27 rfl hb3_6 (by first | (simp;done) | (simp [D.leaves,D.width,valCells];done) | decide) fun o11 hb11 hk11=>?_);have hK_11:=(hk11 _ (by omega)).trans hK_6;have hb2_11:=(hk11 _ (by omega)).trans hb2_6;have hb6_11:=(hk11 _ (by omega)).trans hb6;refine u_nil (WP.ret ?_);refine retC1_ok (resis_agg rfl th27 rfl hb11 rfl rfl rfl) ?_ (by omega) (fun t ht=>(hk11 t (by omega)).trans ((hk6 t (by omega)).trans ((hk5 t (by omega)).trans ((hk3 t (by omega)).trans ((hk2 t (by omega)))))));rw [cut_no (v:=(.mk kd it tx xs ns)) hy hgA];first | rfl | exact (encV_eq _).symm
 ·
  have hgA:¬ (ky≠6∨ys.length≤n.toNat):=by have hgo:=hc9;simp [encVs_length] at hgo;omega
  refine WP.skip (hK7 _ (wr (uf th27 th25 hb6 ?_)));refine ul th25 hb6 ?_;refine ul th3 hK_6 ?_;refine u_step (o_sl_hdV rfl rfl th25 rfl th27 rfl hn (by omega) ?_);refine uf th27 th25 hb6 ?_;refine u_step0 (g_st rfl rfl rfl th25 rfl hb6 (by simp) fun o13 hb13 hk13=>?_);have hK_13:=(hk13 _ (by omega)).trans hK_6;have hb2_13:=(hk13 _ (by omega)).trans hb2_6;have hb3_13:=(hk13 _ (by omega)).trans hb3_6;refine u_nil (wr (ug th27 hb2_13 ?_));refine um (ug th27 hb13 ?_);refine u_step (o_pcall (s168i (.mk kd it tx xs ns) i (cutI n.toNat (.mk ky iy ty ys ny)) h0 hi hsz) rfl ?_);refine u_step0 (g_sta rfl (congrArg SV.d (encV_eq _)) th27 rfl hb3_13 (by simp [valCells]) fun o15 hb15 hk15=>?_);have hK_15:=(hk15 _ (by omega)).trans hK_13;have hb2_15:=(hk15 _ (by omega)).trans hb2_13;have hb13_15:=(hk15 _ (by omega)).trans hb13;refine u_nil (WP.ret ?_);refine retC1_ok (resis_agg rfl th27 rfl hb15 rfl rfl rfl) ?_ (by omega) (fun t ht=>(hk15 t (by omega)).trans ((hk13 t (by omega)).trans ((hk6 t (by omega)).trans ((hk5 t (by omega)).trans ((hk3 t (by omega)).trans ((hk2 t (by omega))))))));rw [cut_yes (v:=(.mk kd it tx xs ns)) hy hgA];first | rfl | exact (encV_eq _).symm
theorem do_cut (k:Nat) (n:Int) (o0:Nat→Option AO) (hK:o0 k=some (.box [.d (.int .i64 n)])) (hn:0≤n):DoOk 167 [] [.loc k 0] (cutV n.toNat) [k] o0:=fun o nk v i hks h0 hi hm hk hsz=>
 s167 v i n k o nk (hks k (by simp)).1 ((hks k (by simp)).2.trans hK) hn h0 hi hsz
def doV (v:Val) (d:Dlt):Val:=if d.kind=1 then (setP v d.path d.value).1 else if d.kind=2 then atV withoutV v d.path else atV (cutV d.n.toNat) v d.path
def doE (v:Val) (d:Dlt):Int:=if d.kind=1 then setE v d.path d.value else if d.kind=2 then chkT v d.path else cutE v d.path d.n
theorem setE_0 {v:Val} {p:List Str} {x:Val} (h:setE v p x=0):setD v p x=encV (setP v p x).1:=by
 by_cases hA:v.kind=7∧mayV x=false
 ·rw [(set_a hA).2] at h;cases h
 by_cases hz:chkT v p=0
 ·cases hy:(setP v p x).2 with
  | false=>rw [(set_c hA hz hy).2] at h;cases h
  | true=>exact (set_d hA hz hy).1
 ·rw [(set_b hA hz).2] at h;exact absurd h hz
theorem setE_1 {v:Val} {p:List Str} {x:Val} (h:¬ setE v p x=0):setD v p x=zAgg:=by
 by_cases hA:v.kind=7∧mayV x=false
 ·exact (set_a hA).1
 by_cases hz:chkT v p=0
 ·cases hy:(setP v p x).2 with
  | false=>exact (set_c hA hz hy).1
  | true=>exact absurd (set_d hA hz hy).2 h
 ·exact (set_b hA hz).1
theorem cutE_0 {v:Val} {p:List Str} {n:Int} (h:cutE v p n=0):cutD v p n=encV (atV (cutV n.toNat) v p):=by
 unfold cutE at h;split at h
 ·rename_i hz;split at h
  ·cases h
  ·rw [cutD,if_pos ⟨hz,by omega⟩]
 ·rename_i hz;exact absurd h hz
theorem cutE_1 {v:Val} {p:List Str} {n:Int} (h:¬ cutE v p n=0):cutD v p n=zAgg:=by
 unfold cutE at h;split at h
 ·rename_i hz;split at h
  ·rw [cutD,if_neg (by omega)]
  ·exact absurd rfl h
 ·rename_i hz;rw [cutD,if_neg (fun e=>hz e.1)]
theorem fn133:FnOkC Tryz.prog 133 26 [.cell 6 27,.tmp 7] (bodyOf Tryz.f133):=⟨Tryz.f133,Tryz.func133,by kernel_rfl,by decide,by kernel_rfl,by kernel_rfl⟩
theorem s133 (v:Val) (p:List Str) (n:Int) (hsz:szV v≤1099511627776) (hsr:mayV v=true→szV (atV (cutV n.toNat) v p)≤1099511627776):PSpec Tryz.prog 133 [.d (encV v),.d (.sl 1 (p.map .str)),.d (.int .i64 n)] (.tup (([cutD v p n,.int .i64 (cutE v p n)]).map .d)):=by
 obtain ⟨kd,it,tx,xs,ns⟩:=v;refine PSpec.of2C tabOk fn133 (by simp) fun o nk=>?_;refine wr ?_;refine u_step (g_box rfl fun o2 hb2 hk2=>?_);refine u_step (g_box1 rfl rfl fun o3 hb3 hk3=>?_);have hb2_3:=(hk3 _ (by omega)).trans hb2;refine u_step (g_alloc th27 rfl fun o4 hb4 hk4=>?_);have hb2_4:=(hk4 _ (by omega)).trans hb2_3;have hb3_4:=(hk4 _ (by omega)).trans hb3;refine ua ?_;refine u_nil ?_;refine WP.seq fun K5 hK5=>?_;refine wr ?_;refine ug th27 hb2_4 ?_;refine um ?_;refine u_step (o_pcall (s155 (.mk kd it tx xs ns) p) rfl ?_);refine ua ?_;refine u_nil ?_;refine wr ?_;refine um ?_;refine ub ?_;refine u_nil ?_;refine wc (fun hc8=>?_) (fun hc8=>?_) <;> try simp only [Q0,Q1,Q2,Q3,Q4,Q5,Q6,Q7,Q8,ge_iff_le,gt_iff_lt] at hc8
 ·
  have hz:¬ chkT (.mk kd it tx xs ns) p=0:=by have hgo:=hc8;intro e;unfold chkT at e;rw [e] at hgo;simp at hgo
  refine wr ?_;refine u_step (o_bu rfl th27 rfl rfl ?_);refine um ?_;refine u_step0 (g_sta rfl rfl th27 rfl hb4 (by first | (simp;done) | (simp [D.leaves,D.width,valCells];done) | decide) fun o10 hb10 hk10=>?_);have hb2_10:=(hk10 _ (by omega)).trans hb2_4;have hb3_10:=(hk10 _ (by omega)).trans hb3_4;refine ua (u_nil (WP.ret ?_));refine retC_ok (resis_agg rfl th27 rfl hb10 rfl rfl rfl) rfl ?_ ?_ (by omega) (fun t ht=>(hk10 t (by omega)).trans ((hk4 t (by omega)).trans ((hk3 t (by omega)).trans ((hk2 t (by omega))))))
  ·rw [cutD,if_neg (fun e=>hz e.1)];rfl
  ·rw [cutE,if_neg hz];rfl
 ·
  have hz:chkT (.mk kd it tx xs ns) p=0:=by have hgo:=hc8;unfold chkT;simpa using hgo
  refine WP.skip ?_;refine hK5 _ ?_;refine WP.seq fun K11 hK11=>?_;refine wr ?_;refine ul th3 hb3_4 ?_;refine ub ?_;refine u_nil ?_;refine wc (fun hc13=>?_) (fun hc13=>?_) <;> try simp only [Q0,Q1,Q2,Q3,Q4,Q5,Q6,Q7,Q8,ge_iff_le,gt_iff_lt] at hc13
  ·
   have hn0:n < 0:=by have hgo:=hc13;simpa using hgo
   refine wr ?_;refine u_step (o_bu rfl th27 rfl rfl ?_);refine u_step0 (g_sta rfl rfl th27 rfl hb4 (by first | (simp;done) | (simp [D.leaves,D.width,valCells];done) | decide) fun o15 hb15 hk15=>?_);have hb2_15:=(hk15 _ (by omega)).trans hb2_4;have hb3_15:=(hk15 _ (by omega)).trans hb3_4;refine ua (u_nil (WP.ret ?_));refine retC_ok (resis_agg rfl th27 rfl hb15 rfl rfl rfl) rfl ?_ ?_ (by omega) (fun t ht=>(hk15 t (by omega)).trans ((hk4 t (by omega)).trans ((hk3 t (by omega)).trans ((hk2 t (by omega))))))
   ·rw [cutD,if_neg (by omega)];rfl
   ·rw [cutE,if_pos hz,if_pos hn0]
  ·
   have hn0:0≤n:=by have hgo:=hc13;simp at hgo;omega
   refine WP.skip (hK11 _ (wr ?_));refine u_step (o_mf rfl rfl ?_);refine u_step (o_assignV (v:=.clo _ _ _) rfl ?_);refine u_nil (wr (ug th27 hb2_4 ?_));refine um ?_;refine u_step (o_moveV (v:=.clo _ _ _) rfl ?_);refine u_step (o_scall (s165 167 [] [.loc (nk+1) 0] (cutV n.toNat) [nk+1] o4 (do_cut (nk+1) n _ hb3_4 hn0) p (.mk kd it tx xs ns) _ _ (path_ne (chkT_may hz).2.2) (fun t ht=>by rw [List.mem_singleton.1 ht];exact ⟨by omega,rfl⟩) (chkT_may hz).1 hsz) rfl ?_);refine u_step (o_pcall (s77 _ (hsr (chkT_may hz).1)) rfl ?_);refine u_step0 (g_sta rfl (congrArg SV.d (encV_eq _)) th27 rfl hb4 (by simp [valCells]) fun o18 hb18 hk18=>?_);have hb2_18:=(hk18 _ (by omega)).trans hb2_4;have hb3_18:=(hk18 _ (by omega)).trans hb3_4;refine ua (u_nil (WP.ret ?_));refine retC_ok (resis_agg rfl th27 rfl hb18 rfl rfl rfl) rfl ?_ ?_ (by omega) (fun t ht=>(hk18 t (by omega)).trans ((hk4 t (by omega)).trans ((hk3 t (by omega)).trans ((hk2 t (by omega))))))
   ·rw [cutD,if_pos ⟨hz,hn0⟩];first | rfl | exact (encV_eq _).symm
   ·rw [cutE,if_pos hz,if_neg (by omega)]
theorem s131y (v:Val) (d:Dlt) (h1:d.kind=1) (hsz:szV v≤1099511627776) (hsr:mayV v=true→szV (doV v d)≤1099511627776) (he:doE v d=0):PSpec Tryz.prog 131 [.d (encV v),.d (.sl 1 (d.path.map .str)),.d (.agg (valCells d.value))] (.tup ([encV (doV v d),.int .i64 0].map .d)):=by
 have e1:doV v d=(setP v d.path d.value).1:=if_pos h1;have e2:doE v d=setE v d.path d.value:=if_pos h1;rw [e1] at hsr;rw [e2] at he;have h:=s131 v d.path d.value hsz hsr;rw [setE_0 he,he,encV_eq d.value] at h;rw [e1];exact h
theorem s131n (v:Val) (d:Dlt) (h1:d.kind=1) (hsz:szV v≤1099511627776) (hsr:mayV v=true→szV (doV v d)≤1099511627776) (he:¬ doE v d=0):PSpec Tryz.prog 131 [.d (encV v),.d (.sl 1 (d.path.map .str)),.d (.agg (valCells d.value))] (.tup ([zAgg,.int .i64 (doE v d)].map .d)):=by
 have e1:doV v d=(setP v d.path d.value).1:=if_pos h1;have e2:doE v d=setE v d.path d.value:=if_pos h1;rw [e1] at hsr;rw [e2] at he;have h:=s131 v d.path d.value hsz hsr;rw [setE_1 he,encV_eq d.value] at h;rw [e2];exact h
theorem s132y (v:Val) (d:Dlt) (h1:¬ d.kind=1) (h2:d.kind=2) (hsz:szV v≤1099511627776) (hsr:mayV v=true→szV (doV v d)≤1099511627776) (he:doE v d=0):PSpec Tryz.prog 132 [.d (encV v),.d (.sl 1 (d.path.map .str))] (.tup ([encV (doV v d),.int .i64 0].map .d)):=by
 have e1:doV v d=atV withoutV v d.path:=(if_neg h1).trans (if_pos h2);have e2:doE v d=chkT v d.path:=(if_neg h1).trans (if_pos h2);rw [e1] at hsr;rw [e2] at he;have h:=s132 v d.path hsz hsr;rw [show dropD v d.path=encV (atV withoutV v d.path) from if_pos he,he] at h;rw [e1];exact h
theorem s132n (v:Val) (d:Dlt) (h1:¬ d.kind=1) (h2:d.kind=2) (hsz:szV v≤1099511627776) (hsr:mayV v=true→szV (doV v d)≤1099511627776) (he:¬ doE v d=0):PSpec Tryz.prog 132 [.d (encV v),.d (.sl 1 (d.path.map .str))] (.tup ([zAgg,.int .i64 (doE v d)].map .d)):=by
 have e1:doV v d=atV withoutV v d.path:=(if_neg h1).trans (if_pos h2);have e2:doE v d=chkT v d.path:=(if_neg h1).trans (if_pos h2);rw [e1] at hsr;rw [e2] at he;have h:=s132 v d.path hsz hsr;rw [show dropD v d.path=zAgg from if_neg he] at h;rw [e2];exact h
theorem s133y (v:Val) (d:Dlt) (h1:¬ d.kind=1) (h2:¬ d.kind=2) (hsz:szV v≤1099511627776) (hsr:mayV v=true→szV (doV v d)≤1099511627776) (he:doE v d=0):PSpec Tryz.prog 133 [.d (encV v),.d (.sl 1 (d.path.map .str)),.d (.int .i64 d.n)] (.tup ([encV (doV v d),.int .i64 0].map .d)):=by
 have e1:doV v d=atV (cutV d.n.toNat) v d.path:=(if_neg h1).trans (if_neg h2);have e2:doE v d=cutE v d.path d.n:=(if_neg h1).trans (if_neg h2);rw [e1] at hsr;rw [e2] at he;have h:=s133 v d.path d.n hsz hsr;rw [cutE_0 he,he] at h;rw [e1];exact h
theorem s133n (v:Val) (d:Dlt) (h1:¬ d.kind=1) (h2:¬ d.kind=2) (hsz:szV v≤1099511627776) (hsr:mayV v=true→szV (doV v d)≤1099511627776) (he:¬ doE v d=0):PSpec Tryz.prog 133 [.d (encV v),.d (.sl 1 (d.path.map .str)),.d (.int .i64 d.n)] (.tup ([zAgg,.int .i64 (doE v d)].map .d)):=by
 have e1:doV v d=atV (cutV d.n.toNat) v d.path:=(if_neg h1).trans (if_neg h2);have e2:doE v d=cutE v d.path d.n:=(if_neg h1).trans (if_neg h2);rw [e1] at hsr;rw [e2] at he;have h:=s133 v d.path d.n hsz hsr;rw [cutE_1 he] at h;rw [e2];exact h
theorem fn78:FnOkC Tryz.prog 78 34 [.cell 4 27,.tmp 5] (bodyOf Tryz.f78):=⟨Tryz.f78,Tryz.func78,by kernel_rfl,by decide,by kernel_rfl,by kernel_rfl⟩
theorem s78y (v:Val) (d:Dlt) (hsz:szV v≤1099511627776) (hsr:mayV v=true→szV (doV v d)≤1099511627776) (he:doE v d=0):PSpec Tryz.prog 78 [.d (encV v),.d (encD d)] (.tup (([encV (doV v d),.int .i64 0]).map .d)):=by
 obtain ⟨kd,it,tx,xs,ns⟩:=v;refine PSpec.of2C tabOk fn78 (by simp) fun o nk=>?_;refine wr ?_;refine u_step (g_box rfl fun o2 hb2 hk2=>?_);refine u_step (g_box rfl fun o3 hb3 hk3=>?_);have hb2_3:=(hk3 _ (by omega)).trans hb2;refine u_step (g_alloc th27 rfl fun o4 hb4 hk4=>?_);have hb2_4:=(hk4 _ (by omega)).trans hb2_3;have hb3_4:=(hk4 _ (by omega)).trans hb3;refine ua (u_nil (WP.seq fun K5 hK5=>?_));refine wr (uf th83 th3 hb3_4 ?_);refine ul th3 hb3_4 ?_;refine u_nil (WP.block (wr (ub (ua (u_nil ?_)))));refine wc (fun hc8=>?_) (fun hc8=>?_)
 ·
  simp at hc8;refine wr (ug th27 hb2_4 ?_);refine uf th83 th22 hb3_4 ?_;refine ul th22 hb3_4 ?_;refine uf th83 th27 hb3_4 ?_;refine ug th27 hb3_4 ?_;refine u_step (o_pcall (s131y (.mk kd it tx xs ns) d hc8 hsz hsr he) rfl ?_);refine ue (ue ?_);refine u_step0 (g_sta rfl (congrArg SV.d (encV_eq _)) th27 rfl hb4 (by simp [valCells]) fun o10 hb10 hk10=>?_);have hb2_10:=(hk10 _ (by omega)).trans hb2_4;have hb3_10:=(hk10 _ (by omega)).trans hb3_4;refine ua (u_nil (WP.ret ?_));refine retC_ok (resis_agg rfl th27 rfl hb10 rfl rfl rfl) rfl ?_ ?_ (by omega) (fun t ht=>(hk10 t (by omega)).trans ((hk4 t (by omega)).trans ((hk3 t (by omega)).trans ((hk2 t (by omega))))))
  ·first | rfl | exact (encV_eq _).symm
  ·rfl
 ·
  simp at hc8;refine wr (ub (ua (u_nil ?_)));refine wc (fun hc12=>?_) (fun hc12=>?_)
  ·
   simp at hc12;refine wr (ug th27 hb2_4 ?_);refine uf th83 th22 hb3_4 ?_;refine ul th22 hb3_4 ?_;refine u_step (o_pcall (s132y (.mk kd it tx xs ns) d (by assumption) hc12 hsz hsr he) rfl ?_);refine ue (ue ?_);refine u_step0 (g_sta rfl (congrArg SV.d (encV_eq _)) th27 rfl hb4 (by simp [valCells]) fun o14 hb14 hk14=>?_);have hb2_14:=(hk14 _ (by omega)).trans hb2_4;have hb3_14:=(hk14 _ (by omega)).trans hb3_4;refine ua (u_nil (WP.ret ?_));refine retC_ok (resis_agg rfl th27 rfl hb14 rfl rfl rfl) rfl ?_ ?_ (by omega) (fun t ht=>(hk14 t (by omega)).trans ((hk4 t (by omega)).trans ((hk3 t (by omega)).trans ((hk2 t (by omega))))))
   ·first | rfl | exact (encV_eq _).symm
   ·rfl
  ·
   simp at hc12;refine WP.skip (hK5 _ (wr (ug th27 hb2_4 ?_)));refine uf th83 th22 hb3_4 ?_;refine ul th22 hb3_4 ?_;refine uf th83 th3 hb3_4 ?_;refine ul th3 hb3_4 ?_;refine u_step (o_pcall (s133y (.mk kd it tx xs ns) d (by assumption) hc12 hsz hsr he) rfl ?_);refine ue (ue ?_);refine u_step0 (g_sta rfl (congrArg SV.d (encV_eq _)) th27 rfl hb4 (by simp [valCells]) fun o16 hb16 hk16=>?_);have hb2_16:=(hk16 _ (by omega)).trans hb2_4;have hb3_16:=(hk16 _ (by omega)).trans hb3_4;refine ua (u_nil (WP.ret ?_));refine retC_ok (resis_agg rfl th27 rfl hb16 rfl rfl rfl) rfl ?_ ?_ (by omega) (fun t ht=>(hk16 t (by omega)).trans ((hk4 t (by omega)).trans ((hk3 t (by omega)).trans ((hk2 t (by omega))))))
   ·first | rfl | exact (encV_eq _).symm
   ·rfl
theorem s78n (v:Val) (d:Dlt) (hsz:szV v≤1099511627776) (hsr:mayV v=true→szV (doV v d)≤1099511627776) (he:¬ doE v d=0):PSpec Tryz.prog 78 [.d (encV v),.d (encD d)] (.tup (([zAgg,.int .i64 (doE v d)]).map .d)):=by
 obtain ⟨kd,it,tx,xs,ns⟩:=v;refine PSpec.of2C tabOk fn78 (by simp) fun o nk=>?_;refine wr ?_;refine u_step (g_box rfl fun o2 hb2 hk2=>?_);refine u_step (g_box rfl fun o3 hb3 hk3=>?_);have hb2_3:=(hk3 _ (by omega)).trans hb2;refine u_step (g_alloc th27 rfl fun o4 hb4 hk4=>?_);have hb2_4:=(hk4 _ (by omega)).trans hb2_3;have hb3_4:=(hk4 _ (by omega)).trans hb3;refine ua (u_nil (WP.seq fun K5 hK5=>?_));refine wr (uf th83 th3 hb3_4 ?_);refine ul th3 hb3_4 ?_;refine u_nil (WP.block (wr (ub (ua (u_nil ?_)))));refine wc (fun hc8=>?_) (fun hc8=>?_)
 ·
  simp at hc8;refine wr (ug th27 hb2_4 ?_);refine uf th83 th22 hb3_4 ?_;refine ul th22 hb3_4 ?_;refine uf th83 th27 hb3_4 ?_;refine ug th27 hb3_4 ?_;refine u_step (o_pcall (s131n (.mk kd it tx xs ns) d hc8 hsz hsr he) rfl ?_);refine ue (ue ?_);refine u_step0 (g_sta rfl rfl th27 rfl hb4 (by first | (simp;done) | (simp [D.leaves,D.width,valCells];done) | decide) fun o10 hb10 hk10=>?_);have hb2_10:=(hk10 _ (by omega)).trans hb2_4;have hb3_10:=(hk10 _ (by omega)).trans hb3_4;refine ua (u_nil (WP.ret ?_));refine retC_ok (resis_agg rfl th27 rfl hb10 rfl rfl rfl) rfl ?_ ?_ (by omega) (fun t ht=>(hk10 t (by omega)).trans ((hk4 t (by omega)).trans ((hk3 t (by omega)).trans ((hk2 t (by omega))))))
  ·rfl
  ·rfl
 ·
  simp at hc8;refine wr (ub (ua (u_nil ?_)));refine wc (fun hc12=>?_) (fun hc12=>?_)
  ·
   simp at hc12;refine wr (ug th27 hb2_4 ?_);refine uf th83 th22 hb3_4 ?_;refine ul th22 hb3_4 ?_;refine u_step (o_pcall (s132n (.mk kd it tx xs ns) d (by assumption) hc12 hsz hsr he) rfl ?_);refine ue (ue ?_);refine u_step0 (g_sta rfl rfl th27 rfl hb4 (by first | (simp;done) | (simp [D.leaves,D.width,valCells];done) | decide) fun o14 hb14 hk14=>?_);have hb2_14:=(hk14 _ (by omega)).trans hb2_4;have hb3_14:=(hk14 _ (by omega)).trans hb3_4;refine ua (u_nil (WP.ret ?_));refine retC_ok (resis_agg rfl th27 rfl hb14 rfl rfl rfl) rfl ?_ ?_ (by omega) (fun t ht=>(hk14 t (by omega)).trans ((hk4 t (by omega)).trans ((hk3 t (by omega)).trans ((hk2 t (by omega))))))
   ·rfl
   ·rfl
  ·
   simp at hc12;refine WP.skip (hK5 _ (wr (ug th27 hb2_4 ?_)));refine uf th83 th22 hb3_4 ?_;refine ul th22 hb3_4 ?_;refine uf th83 th3 hb3_4 ?_;refine ul th3 hb3_4 ?_;refine u_step (o_pcall (s133n (.mk kd it tx xs ns) d (by assumption) hc12 hsz hsr he) rfl ?_);refine ue (ue ?_);refine u_step0 (g_sta rfl rfl th27 rfl hb4 (by first | (simp;done) | (simp [D.leaves,D.width,valCells];done) | decide) fun o16 hb16 hk16=>?_);have hb2_16:=(hk16 _ (by omega)).trans hb2_4;have hb3_16:=(hk16 _ (by omega)).trans hb3_4;refine ua (u_nil (WP.ret ?_));refine retC_ok (resis_agg rfl th27 rfl hb16 rfl rfl rfl) rfl ?_ ?_ (by omega) (fun t ht=>(hk16 t (by omega)).trans ((hk4 t (by omega)).trans ((hk3 t (by omega)).trans ((hk2 t (by omega))))))
   ·rfl
   ·rfl
end Go.Proofs.YtpkcbdhjnnnkbaaGreat.Abs
