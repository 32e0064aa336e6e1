/- EntrySames: called with any two entries that hold together at most 1048576 values and letters, the law answers true, and both read afterwards as they read before. -/
import Derived.Test.YtfgampmhjfffdaaGreatMEntrySames4
import Derived.Test.YtfgampmhjfffdaaGreatMEntrySames3
import Derived.Test.YtfgampmhjfffdaaGreatMEntrySames2
import Derived.Test.YtfgampmhjfffdaaGreatRows
import Derived.WalkKit
import Derived.ProofKit
import Derived.OpenShut
import Derived.JoinedCond
import Derived.ChangeArms
import Derived.Carry
/- Drawn regions with allocs that no edge orders. -/
set_option linter.unusedVariables false
set_option linter.unusedSimpArgs false
namespace Go.Proofs.YtfgampmhjfffdaaGreat.Abs
open Go

/-- An alloc that waits: its operation, its slot, the number of the writer that needs it, its cells. -/
structure Al where
  i : Nat
  t : Nat
  j : Nat
  l : List D
inductive KdP where
  | q (lo hi : Nat)
  | w (j : Nat)
  | a (j k : Nat)
def lsAt (al : List Al) (j : Nat) : List Al := al.filter fun b => decide (b.j = j)
def matO : List Al → Ob → Ob
  | [], x => x
  | b :: r, x => matO r (upd x.1 x.2 (some (.box (b.l.map .d))), x.2 + 1)
def matS : List Al → (Nat → SV) → Nat → Nat → SV
  | [], sl, _ => sl
  | b :: r, sl, nk => matS r (upd sl b.t (.loc nk 0)) (nk + 1)
def setAll : List Al → Array Bool → Array Bool
  | [], lm => lm
  | b :: r, lm => setAll r (lm.setIfInBounds b.i true)
theorem setAll_size : ∀ (r : List Al) (lm : Array Bool), (setAll r lm).size = lm.size
  | [], lm => rfl
  | b :: r, lm => by rw [setAll, setAll_size r]; simp
theorem setAll_get : ∀ (r : List Al) (lm : Array Bool) (x : Nat), (∀ b ∈ r, b.i < lm.size) → ((setAll r lm).getD x false = true ↔ lm.getD x false = true ∨ ∃ b ∈ r, b.i = x)
  | [], lm, x, _ => by simp [setAll]
  | b :: r, lm, x, h => by
    rw [setAll, setAll_get r _ x (fun c hc => by simpa using h c (by simp [hc]))]
    by_cases hx : b.i = x
    · subst hx
      have : b.i < lm.size := h b (by simp)
      constructor
      · intro _; exact .inr ⟨b, by simp, rfl⟩
      · intro _; left; simp [this]
    · rw [getD_set_ne false hx]
      simp [hx]
theorem matS_slL {sl0 : Nat → SV} {prs : List (Option Nat × SV)} (hu : Uniq prs) : ∀ (r : List Al) (lm : Array Bool) (nk : Nat), (∀ (pos : Nat) (b : Al), r[pos]? = some b → prs[b.i]? = some (some b.t, .loc (nk + pos) 0) ∧ b.i < lm.size) →
    matS r (slL sl0 prs lm) nk = slL sl0 prs (setAll r lm)
  | [], lm, nk, _ => rfl
  | b :: r, lm, nk, h => by
    obtain ⟨h1, h2⟩ := h 0 b rfl
    have e : upd (slL sl0 prs lm) b.t (.loc nk 0) = slL sl0 prs (lm.setIfInBounds b.i true) := by
      rw [slL_set hu h1 h2]; rfl
    rw [matS, setAll, e]
    refine matS_slL hu r _ (nk + 1) fun pos c hc => ?_
    obtain ⟨h3, h4⟩ := h (pos + 1) c (by simpa using hc)
    exact ⟨by rw [show nk + 1 + pos = nk + (pos + 1) by omega]; exact h3, by simpa using h4⟩
theorem adoptAll {E : Ent} {a : Act} {w : World} {S : Nat → Prop} {G : Nat → Nat} : ∀ (r : List Al) {s : St} {γ : Nat → Value}, Rl E s a w S γ → (∀ b ∈ r, PendAt E a w S γ s.o (G b.i) b.t b.l) → r.Pairwise (fun b c => G b.i ≠ G c.i) →
    ∃ γ', Rl E ⟨matS r s.sl s.nk, (matO r (s.o, s.nk)).1, (matO r (s.o, s.nk)).2⟩ a w S γ' ∧ ∀ g t l, (∀ b ∈ r, g ≠ G b.i) → PendAt E a w S γ s.o g t l → PendAt E a w S γ' (matO r (s.o, s.nk)).1 g t l
  | [], s, γ, hr, _, _ => ⟨γ, hr, fun _ _ _ _ h => h⟩
  | b :: r, s, γ, hr, hp, hd => by
    obtain ⟨hd1, hd2⟩ := List.pairwise_cons.1 hd
    have hb := hp b (by simp)
    have hr2 := hr.adopt hb.2 hb.1
    obtain ⟨γ', k1, k2⟩ := adoptAll r hr2 (fun c hc => (hp c (by simp [hc])).adopt hr.sto.o_lt (fun e => hd1 c hc e.symm)) hd2
    exact ⟨γ', k1, fun g t l hg hpd => k2 g t l (fun c hc => hg c (by simp [hc])) (hpd.adopt hr.sto.o_lt (hg b (by simp)))⟩

theorem gdc_wanted2 {E : Ent} {s : St} {a : Act} {w : World} {ops : Array Oper} {o : Oper} {c : Bool} (hr : Rel E s a w) (h : gdc ops s o.guard c) : Region.wanted o (yielded ops a.tmps) = c := by
  unfold gdc at h
  unfold Region.wanted
  split at h
  · rename_i hg; rw [hg]; exact h.symm
  · rename_i j want hg
    rw [hg]
    exact guard_yield hr h
section
variable {P : Program} {Θ : Tab} {n k0 : Nat} {Q : Exit → St → Prop}
def eOpP (P : Program) (Θ : Tab) (ops : Array Oper) (ph : Nat → Ob) (al : List Al) (o : Oper) (sl : Nat → SV) (v : SV) : KdP → Prop
  | .q lo hi => allP (hi - lo) (fun p => gOp P Θ ops o ⟨sl, (ph p).1, (ph p).2⟩ v) lo
  | .w j => ∃ c v2, gdc ops ⟨sl, (matO (lsAt al j) (ph j)).1, (matO (lsAt al j) (ph j)).2⟩ o.guard c ∧ (c = true → vOp P Θ o.op ⟨sl, (matO (lsAt al j) (ph j)).1, (matO (lsAt al j) (ph j)).2⟩ fun v' o' nk' => v' = v2 ∧ o' = (ph (j + 1)).1 ∧ nk' = (ph (j + 1)).2) ∧ (c = false → ph (j + 1) = matO (lsAt al j) (ph j)) ∧ v = cnd c v2
  | .a j k => v = .loc ((ph j).2 + k) 0
/-- What the kinds must fit. -/
structure FitP (Θ : Tab) (ops : Array Oper) (kd : List KdP) (wr : List Nat) (al : List Al) : Prop where
  kl : kd.length = ops.size
  nd : wr.Nodup
  wk : ∀ j i, wr[j]? = some i → kd[i]? = some (KdP.w j)
  q : ∀ i lo hi, kd[i]? = some (KdP.q lo hi) → lo ≤ wr.length ∧ ∀ j x, wr[j]? = some x → (j < lo → ancB ops.toList i x = true) ∧ (hi ≤ j → ancB ops.toList x i = true)
  w : ∀ i j, kd[i]? = some (KdP.w j) → wr[j]? = some i ∧ ∀ j' x, wr[j']? = some x → j' < j → ancB ops.toList i x = true
  a : ∀ i j k, kd[i]? = some (KdP.a j k) → ∃ b ∈ al, b.i = i ∧ b.j = j ∧ (lsAt al j)[k]? = some b
  aA : ∀ b ∈ al, (∃ k, kd[b.i]? = some (KdP.a b.j k)) ∧ ∃ x, wr[b.j]? = some x ∧ ancB ops.toList x b.i = true
  us : ∀ b ∈ al, ∀ i o, ops[i]? = some o → b.t ∈ o.looksAt ops → wr[b.j]? = some i ∨ ∃ x, wr[b.j]? = some x ∧ ancB ops.toList i x = true
  op : ∀ b ∈ al, ∃ o e i, ops[b.i]? = some o ∧ o.op = .alloc e ∧ o.guard = none ∧ o.dst = some b.t ∧ Θ e = some i ∧ i.z = some b.l
  inj : ∀ b ∈ al, ∀ c ∈ al, b.i = c.i → b = c
  ndL : ∀ j, (lsAt al j).Pairwise fun b c => b.i ≠ c.i

theorem WP.drawnP (hΘ : TabOk P Θ) (hm : P.follows .mixedOrders = true) {sl : Nat → SV} {id : Nat} {ops : Array Oper} {kd : List KdP} {wr : List Nat} {al : List Al} (fit : FitP Θ ops kd wr al) (ph : Nat → Ob) (vs : List SV) (hd : (ops.toList.all fun o => dstOk n o.dst) = true) (hflow : flowOk ops = true)
    (hvl : vs.length = ops.size) (hany : ∀ b ∈ al, sl b.t = .any)
    (hop : ∀ (i : Nat) (o : Oper) (v : SV) (k : KdP), ops[i]? = some o → vs[i]? = some v → kd[i]? = some k → eOpP P Θ ops ph al o (slAt sl (((ops.toList.map (·.dst)).zip vs).take i)) v k)
    (hfin : Q .normal ⟨slAt sl ((ops.toList.map (·.dst)).zip vs), (ph wr.length).1, (ph wr.length).2⟩) : WP P n k0 (.region id ops true) ⟨sl, (ph 0).1, (ph 0).2⟩ Q := by
  intro E a w e1 e2 hrel
  refine wp_region_any hm ?_
  generalize hprs : (ops.toList.map (·.dst)).zip vs = prs at hop hfin
  have hget : ∀ (j : Nat) (o : Oper), ops[j]? = some o → ∃ v, vs[j]? = some v ∧ prs[j]? = some (o.dst, v) := fun j o hj => by
    have hlt : j < ops.size := (Array.getElem?_eq_some_iff.1 hj).1
    have hv : vs[j]? = some (vs[j]'(by rw [hvl]; exact hlt)) := List.getElem?_eq_getElem _
    refine ⟨_, hv, ?_⟩
    rw [← hprs, List.getElem?_zip_eq_some]
    refine ⟨?_, hv⟩
    rw [List.getElem?_map]
    have : ops.toList[j]? = some o := by simpa using hj
    rw [this]; rfl
  have hback : ∀ (j : Nat) (d : Option Nat) (v : SV), prs[j]? = some (d, v) → ∃ o, ops[j]? = some o ∧ o.dst = d ∧ vs[j]? = some v := fun j d v hj => by
    rw [← hprs, List.getElem?_zip_eq_some, List.getElem?_map] at hj
    obtain ⟨h1, h2⟩ := hj
    obtain ⟨o, ho, rfl⟩ := Option.map_eq_some_iff.1 h1
    exact ⟨o, by simpa using ho, rfl, h2⟩
  have huniq : Uniq prs := fun i j u v x hi hj => by
    obtain ⟨o, ho, hod, _⟩ := hback i _ v hi
    obtain ⟨p, hp, hpd, _⟩ := hback j _ x hj
    have := (flow_spec hflow ho).2 j p hp
    simp only [flowAt, hpd, Bool.and_eq_true, Bool.or_eq_true, beq_iff_eq] at this
    rcases this.1 with h1 | h1
    · exact h1
    · simp [hod] at h1
  have hons : ∀ {o : Oper} {e : Edge}, e ∈ o.after → Region.binds .any e = true → e.on ∈ onsOf o := fun {o e} he hb => by
    simp only [onsOf, List.mem_map, List.mem_filter]
    exact ⟨e, ⟨by simpa using he, hb⟩, rfl⟩
  have hons' : ∀ {o : Oper} {j : Nat}, j ∈ onsOf o → ∃ e ∈ o.after, Region.binds .any e = true ∧ e.on = j := fun {o j} hj => by
    simp only [onsOf, List.mem_map, List.mem_filter] at hj
    obtain ⟨e, ⟨h1, h2⟩, h3⟩ := hj
    exact ⟨e, by simpa using h1, h2, h3⟩
  have honlt : ∀ (i : Nat) (o : Oper), ops.toList[i]? = some o → ∀ k ∈ onsOf o, k < i := fun i o ho => (flow_spec hflow (by simpa using ho)).1
  -- an alloc's place
  have hpA : ∀ b ∈ al, b.i < ops.size ∧ ∃ v, prs[b.i]? = some (some b.t, v) := fun b hb => by
    obtain ⟨o, e, i, h1, _, _, h4, _⟩ := fit.op b hb
    obtain ⟨v, _, h6⟩ := hget b.i o h1
    exact ⟨(Array.getElem?_eq_some_iff.1 h1).1, v, by rw [h6, h4]⟩
  have hpL : ∀ (j pos : Nat) (b : Al), (lsAt al j)[pos]? = some b → prs[b.i]? = some (some b.t, .loc ((ph j).2 + pos) 0) := fun j pos b hb => by
    have hm := List.mem_of_getElem? hb
    simp only [lsAt, List.mem_filter, decide_eq_true_eq] at hm
    obtain ⟨hbm, rfl⟩ := hm
    obtain ⟨o, e, i, h1, _, _, h4, _⟩ := fit.op b hbm
    obtain ⟨v, h5, h6⟩ := hget b.i o h1
    obtain ⟨⟨k, hk⟩, _⟩ := fit.aA b hbm
    have hv := hop b.i o v _ h1 h5 hk
    obtain ⟨c, hc, hci, hcj, hck⟩ := fit.a _ _ _ hk
    obtain rfl := fit.inj c hc b hbm hci
    have hkp : k = pos := by
      obtain ⟨q1, q2⟩ := List.getElem?_eq_some_iff.1 hck
      obtain ⟨q3, q4⟩ := List.getElem?_eq_some_iff.1 hb
      rcases Nat.lt_trichotomy k pos with hlt | heq | hgt
      · exact absurd (by rw [q2, q4]) ((List.pairwise_iff_getElem.1 (fit.ndL c.j)) k pos q1 q3 hlt)
      · exact heq
      · exact absurd (by rw [q2, q4]) ((List.pairwise_iff_getElem.1 (fit.ndL c.j)) pos k q3 q1 hgt)
    rw [h6, h4]
    simp only [eOpP] at hv
    rw [hv, hkp]
  have hwlt : ∀ j i, wr[j]? = some i → i < ops.size := fun j i hj => by
    have := (List.getElem?_eq_some_iff.1 (fit.wk j i hj)).1
    rw [fit.kl] at this
    exact this
  have hsl : ∀ (listed lm : Array Bool) (i : Nat) (o : Oper), (∀ (j : Nat) (p : Oper), ops[j]? = some p → listed.getD j false = true → ∀ k ∈ onsOf p, listed.getD k false = true) → (∀ x, lm.getD x false = true → listed.getD x false = true) →
      (∀ x, listed.getD x false = true → lm.getD x false = true ∨ ∃ b ∈ al, b.i = x ∧ b.t ∉ o.looksAt ops) →
      ops[i]? = some o → listed.getD i false = false → (∀ k ∈ onsOf o, listed.getD k false = true) → ∀ u ∈ o.looksAt ops, slAt sl (prs.take i) u = slL sl prs lm u := by
    intro listed lm i o hcl hle hto ho hif hon u hu
    by_cases hex : ∃ (j : Nat) (x : SV), prs[j]? = some (some u, x)
    · obtain ⟨j, x, hj⟩ := hex
      obtain ⟨p, hp, hpd, _⟩ := hback j _ x hj
      have hfl := (flow_spec hflow ho).2 j p hp
      have hlook : (o.looksAt ops).contains u = true := by simpa using hu
      simp only [flowAt, hpd, Bool.and_eq_true, Bool.or_eq_true, beq_iff_eq, hlook, Bool.not_true, Bool.false_eq_true, false_or, decide_eq_true_eq, List.contains_eq_mem] at hfl
      rcases hfl.2 with ⟨h1, h2⟩ | ⟨h1, h2⟩
      · have hlj : lm.getD j false = true := by
          rcases hto j (hon j h2) with h | ⟨b, hb, hbi, hbt⟩
          · exact h
          · obtain ⟨_, v, hv⟩ := hpA b hb
            rw [hbi, hj] at hv
            simp at hv
            rw [hv.1] at hu
            exact absurd hu hbt
        rw [slL_hit huniq hj hlj]
        refine slAt_hit _ _ j (by rw [List.getElem?_take, if_pos h1]; exact hj) fun k y hk => ?_
        rw [List.getElem?_take] at hk
        split at hk
        · exact huniq k j u y x hk hj
        · cases hk
      · rw [slAt_miss, slL_miss]
        · intro k y hk hl
          have := huniq k j u y x hk hj
          subst this
          have := hcl k p hp (hle k hl) i h2
          rw [hif] at this
          cases this
        · intro y hy
          obtain ⟨k, hk⟩ := List.getElem?_of_mem hy
          rw [List.getElem?_take] at hk
          split at hk
          · have := huniq k j u y x hk hj
            omega
          · cases hk
    · rw [slAt_miss, slL_miss]
      · exact fun k y hk _ => hex ⟨k, y, hk⟩
      · intro y hy
        obtain ⟨k, hk⟩ := List.getElem?_of_mem (List.mem_of_mem_take hy)
        exact hex ⟨k, y, hk⟩
  have main : ∀ (fuel : Nat) (listed lm : Array Bool) (p : Nat) (G : Nat → Nat) (a : Act) (w : World) (S : Nat → Prop) (γ : Nat → Value), listed.size = ops.size → lm.size = ops.size → unl listed ops.size ≤ fuel → p ≤ wr.length →
      (∀ j i, wr[j]? = some i → (listed.getD i false = true ↔ j < p)) → (∀ (j : Nat) (p : Oper), ops[j]? = some p → listed.getD j false = true → ∀ k ∈ onsOf p, listed.getD k false = true) →
      (∀ x, (∀ b ∈ al, b.i ≠ x) → lm.getD x false = listed.getD x false) → (∀ b ∈ al, (lm.getD b.i false = true ↔ b.j < p)) →
      Rl E ⟨slL sl prs lm, (ph p).1, (ph p).2⟩ a w S γ →
      (∀ b ∈ al, listed.getD b.i false = true → p ≤ b.j → PendAt E a w S γ (ph p).1 (G b.i) b.t b.l) →
      (∀ b ∈ al, ∀ c ∈ al, listed.getD b.i false = true → listed.getD c.i false = true → p ≤ b.j → p ≤ c.j → b.i ≠ c.i → G b.i ≠ G c.i) →
      wpAny P .any ops (fun e a' w' => ∃ s', Rel E s' a' w' ∧ Q e s') fuel listed a w := by
    intro fuel
    have hancw : ∀ (listed : Array Bool), (∀ (j : Nat) (p : Oper), ops[j]? = some p → listed.getD j false = true → ∀ k ∈ onsOf p, listed.getD k false = true) → listed.size = ops.size → ∀ (y x : Nat), ancB ops.toList y x = true → listed.getD y false = true → listed.getD x false = true := by
      intro listed hcl hsz y x hx hy
      cases hq : ops[y]? with
      | none =>
        have : listed.getD y false = false := by
          have := Array.getElem?_eq_none_iff.1 hq
          have : ¬ y < listed.size := by omega
          simp [this]
        rw [this] at hy; cases hy
      | some q =>
        refine ancs_closed honlt (fun j p hj => hcl j p (by simpa using hj)) ops.toList.length y q (by simpa using (Array.getElem?_eq_some_iff.1 hq).1) (by simpa using hq) (hcl y q hq hy) x ?_
        simpa [ancB] using hx
    have hdone : ∀ (listed lm : Array Bool) (p : Nat) (a : Act) (w : World), listed.size = ops.size → lm.size = ops.size → p ≤ wr.length → (∀ j i, wr[j]? = some i → (listed.getD i false = true ↔ j < p)) →
        (∀ x, (∀ b ∈ al, b.i ≠ x) → lm.getD x false = listed.getD x false) → (∀ b ∈ al, (lm.getD b.i false = true ↔ b.j < p)) →
        (∀ i, i < ops.size → listed.getD i true = true) → Rel E ⟨slL sl prs lm, (ph p).1, (ph p).2⟩ a w → ∃ s', Rel E s' a w ∧ Q .normal s' := by
      intro listed lm p a w hsz hlsz hp hwp ht1 ht2 hL hr
      have hLf : ∀ i, i < ops.size → listed.getD i false = true := fun i hi => by
        have h1 := hL i hi
        have : i < listed.size := by omega
        simp [this] at h1 ⊢; exact h1
      have hpe : p = wr.length := by
        by_cases h : p < wr.length
        · have h1 := hwp p wr[p] (List.getElem?_eq_getElem h)
          have := h1.1 (hLf _ (hwlt p _ (List.getElem?_eq_getElem h)))
          omega
        · omega
      subst hpe
      have hlm : ∀ i, i < ops.size → lm.getD i false = true := fun i hi => by
        by_cases hx : ∃ b ∈ al, b.i = i
        · obtain ⟨b, hb, rfl⟩ := hx
          obtain ⟨_, x, hx, _⟩ := fit.aA b hb
          exact (ht2 b hb).2 (List.getElem?_eq_some_iff.1 hx).1
        · rw [ht1 i (fun b hb e => hx ⟨b, hb, e⟩)]; exact hLf i hi
      have hall : slL sl prs lm = slAt sl prs := by
        funext u
        by_cases hex : ∃ (j : Nat) (x : SV), prs[j]? = some (some u, x)
        · obtain ⟨j, x, hj⟩ := hex
          obtain ⟨q, hq, _, _⟩ := hback j _ x hj
          rw [slL_hit huniq hj (hlm j (Array.getElem?_eq_some_iff.1 hq).1), slAt_hit _ _ j hj fun k y hk => huniq k j u y x hk hj]
        · rw [slL_miss, slAt_miss]
          · intro y hy
            obtain ⟨k, hk⟩ := List.getElem?_of_mem hy
            exact hex ⟨k, y, hk⟩
          · exact fun k y hk _ => hex ⟨k, y, hk⟩
      rw [hall] at hr
      exact ⟨_, hr, hfin⟩
    induction fuel with
    | zero =>
      intro listed lm p G a w S γ hsz hlsz hun hp hwp hcl ht1 ht2 hr hpend hdis
      have hL := unl_zero ops.size (by omega) (listed := listed)
      obtain ⟨s', h1, h2⟩ := hdone listed lm p a w hsz hlsz hp hwp ht1 ht2 hL ⟨S, γ, hr⟩
      refine ⟨?_, s', h1, h2⟩
      rw [List.eq_nil_iff_forall_not_mem]
      intro i hi
      rw [mem_ready] at hi
      obtain ⟨h0, o, ho, _⟩ := hi
      have := hL i (Array.getElem?_eq_some_iff.1 ho).1
      rw [this] at h0
      cases h0
    | succ fuel ih =>
      intro listed lm p G a w S γ hsz hlsz hun hp hwp hcl ht1 ht2 hr hpend hdis
      refine ⟨fun hnil => ?_, fun i hi => ?_⟩
      · have hL : ∀ i, i < ops.size → listed.getD i true = true := by
          intro i
          induction i using Nat.strongRecOn with
          | _ i ihi =>
            intro hlt
            by_cases hl : listed.getD i true = true
            · exact hl
            · exfalso
              simp only [Bool.not_eq_true] at hl
              have hmem : i ∈ Region.ready .any ops listed := by
                rw [mem_ready]
                refine ⟨hl, ops[i], by simp [hlt], fun e he hb => ?_⟩
                have hlt2 := (flow_spec hflow (i := i) (o := ops[i]) (by simp [hlt])).1 e.on (hons he hb)
                have := ihi e.on hlt2 (by omega)
                have hlt3 : e.on < listed.size := by omega
                simp [hlt3] at this ⊢
                exact this
              rw [hnil] at hmem
              cases hmem
        exact hdone listed lm p a w hsz hlsz hp hwp ht1 ht2 hL ⟨S, γ, hr⟩
      · have hi' := hi
        rw [mem_ready] at hi'
        obtain ⟨h0, o, ho, hon⟩ := hi'
        have hilt : i < ops.size := (Array.getElem?_eq_some_iff.1 ho).1
        have h0f : listed.getD i false = false := by
          have : i < listed.size := by omega
          simp [this] at h0 ⊢; exact h0
        obtain ⟨v, hv, hpv⟩ := hget i o ho
        have hon' : ∀ k ∈ onsOf o, listed.getD k false = true := fun k hk => by
          obtain ⟨e, h1, h2, rfl⟩ := hons' hk
          exact hon e h1 h2
        have hanc : ∀ k, ancB ops.toList i k = true → listed.getD k false = true := fun k hk => by
          refine ancs_closed honlt (fun j p hj => hcl j p (by simpa using hj)) ops.toList.length i o (by simpa using hilt) (by simpa using ho) hon' k ?_
          simpa [ancB] using hk
        have hle : ∀ x, lm.getD x false = true → listed.getD x false = true := fun x hx => by
          by_cases hex : ∃ b ∈ al, b.i = x
          · obtain ⟨b, hb, rfl⟩ := hex
            obtain ⟨_, y, hy, hya⟩ := fit.aA b hb
            exact hancw listed hcl hsz y b.i hya ((hwp b.j y hy).2 ((ht2 b hb).1 hx))
          · rw [← ht1 x (fun b hb e => hex ⟨b, hb, e⟩)]; exact hx
        have hdo : dstOk E.n o.dst = true := by
          rw [e1]
          exact List.all_eq_true.1 hd o (by
            have : ops.toList[i]? = some o := by simpa using ho
            exact List.mem_of_getElem? this)
        have hcl2 : ∀ (j : Nat) (p : Oper), ops[j]? = some p → (listed.setIfInBounds i true).getD j false = true → ∀ k ∈ onsOf p, (listed.setIfInBounds i true).getD k false = true := by
          intro j p hj hl k hk
          by_cases hji : j = i
          · subst hji
            rw [ho] at hj
            simp only [Option.some.injEq] at hj
            subst hj
            exact getD_set_true (hon' k hk)
          · rw [getD_set_ne false (Ne.symm hji)] at hl
            exact getD_set_true (hcl j p hj hl k hk)
        have hun2 : unl (listed.setIfInBounds i true) ops.size ≤ fuel := by
          have := unl_set h0 ops.size
          rw [if_pos hilt] at this
          omega
        have hseti : (listed.setIfInBounds i true).getD i false = true := by
          have : i < listed.size := by rw [hsz]; exact hilt
          simp [this]
        obtain ⟨k, hk⟩ : ∃ k, kd[i]? = some k := ⟨_, List.getElem?_eq_getElem (by rw [fit.kl]; exact hilt)⟩
        have he := hop i o v k ho hv hk
        have hnot : (∀ j k', kd[i]? ≠ some (KdP.a j k')) → ∀ b ∈ al, b.i ≠ i := fun h b hb e => by
          obtain ⟨⟨k', hk'⟩, _⟩ := fit.aA b hb
          rw [e] at hk'
          exact h _ _ hk'
        have hdne : ∀ b ∈ al, b.i ≠ i → o.dst ≠ some b.t := fun b hb hne e => by
          obtain ⟨_, x, hx⟩ := hpA b hb
          rw [e] at hpv
          exact hne (huniq b.i i b.t x v hx hpv)
        show wpOp P ops _ i _ a w
        unfold wpOp
        rw [ho]
        simp only
        cases k with
        | q lo hi =>
          obtain ⟨hlo, hky⟩ := fit.q i lo hi hk
          have hni := hnot (fun j k' h => by rw [hk] at h; cases h)
          have hnw : ∀ j, wr[j]? ≠ some i := fun j hj => by
            have := fit.wk j i hj
            rw [hk] at this; cases this
          have hplo : lo ≤ p := by
            rcases Nat.lt_or_ge p lo with h | h
            · have hlt : p < wr.length := by omega
              have hw := List.getElem?_eq_getElem hlt
              have h1 := hanc _ ((hky p _ hw).1 h)
              have := (hwp p _ hw).1 h1
              omega
            · exact h
          have hphi : p ≤ hi := by
            rcases Nat.lt_or_ge hi p with h | h
            · have hlt : hi < wr.length := by omega
              have hw := List.getElem?_eq_getElem hlt
              have h1 := (hwp hi _ hw).2 h
              have h2 := hancw listed hcl hsz _ _ ((hky hi _ hw).2 (Nat.le_refl _)) h1
              rw [h0f] at h2; cases h2
            · exact h
          have hg0 := allP_at (hi - lo) lo p he hplo (by omega)
          have hto : ∀ x, listed.getD x false = true → lm.getD x false = true ∨ ∃ b ∈ al, b.i = x ∧ b.t ∉ o.looksAt ops := fun x hx => by
            by_cases hex : ∃ b ∈ al, b.i = x
            · obtain ⟨b, hb, rfl⟩ := hex
              by_cases hbj : b.j < p
              · exact .inl ((ht2 b hb).2 hbj)
              · refine .inr ⟨b, hb, rfl, fun hlk => ?_⟩
                rcases fit.us b hb i o ho hlk with h | ⟨y, h1, h2⟩
                · exact hnw _ h
                · exact hbj ((hwp _ _ h1).1 (hanc _ h2))
            · left
              rw [ht1 x (fun b hb e => hex ⟨b, hb, e⟩)]; exact hx
          have hg : gOp P Θ ops o ⟨slL sl prs lm, (ph p).1, (ph p).2⟩ v := gOp_congr (s := ⟨slAt sl (prs.take i), (ph p).1, (ph p).2⟩) (fun u hu => hsl listed lm i o hcl hle hto ho h0f hon' u hu) rfl rfl hg0
          have hstep := g_stepL (Q := fun e a' w' => ∃ s', Rel E s' a' w' ∧ Q e s') (next := wpAny P .any ops (fun e a' w' => ∃ s', Rel E s' a' w' ∧ Q e s') fuel (listed.setIfInBounds i true)) hΘ hr hdo hg (fun u w' S' γ' hr' ht => by
            refine ih _ (lm.setIfInBounds i true) p G _ w' S' γ' (by simpa using hsz) (by simpa using hlsz) hun2 hp (fun j x hj => ?_) hcl2 (fun x hx => ?_) (fun b hb => ?_) (by rw [slL_set huniq hpv (by omega)]; exact hr') (fun b hb hl hpj => ?_) (fun b hb c hc hl1 hl2 hp1 hp2 hne => ?_)
            · have hne : x ≠ i := fun e => hnw j (by rw [hj, e])
              rw [getD_set_ne false (Ne.symm hne)]
              exact hwp j x hj
            · by_cases hxi : x = i
              · subst hxi
                rw [hseti]
                have : x < lm.size := by omega
                simp [this]
              · rw [getD_set_ne false (Ne.symm hxi), getD_set_ne false (Ne.symm hxi)]
                exact ht1 x hx
            · rw [getD_set_ne false (Ne.symm (hni b hb))]
              exact ht2 b hb
            · rw [getD_set_ne false (Ne.symm (hni b hb))] at hl
              exact (hpend b hb hl hpj).step hr.sto ht (hdne b hb (hni b hb))
            · rw [getD_set_ne false (Ne.symm (hni b hb))] at hl1
              rw [getD_set_ne false (Ne.symm (hni c hc))] at hl2
              exact hdis b hb c hc hl1 hl2 hp1 hp2 hne)
          split
          · rename_i hw
            rw [if_pos hw] at hstep
            exact .inl hstep
          · rename_i hw
            rw [if_neg hw] at hstep
            exact hstep
        | a j k =>
          obtain ⟨b, hb, rfl, rfl, hbk⟩ := fit.a i j k hk
          obtain ⟨o', e', ti, h1, hopa, hgn, hdst, hti, htz⟩ := fit.op b hb
          rw [ho] at h1
          simp only [Option.some.injEq] at h1
          subst h1
          obtain ⟨_, y, hy, hya⟩ := fit.aA b hb
          have hpj : p ≤ b.j := by
            rcases Nat.lt_or_ge b.j p with h | h
            · have := hancw listed hcl hsz y b.i hya ((hwp b.j y hy).2 h)
              rw [h0f] at this; cases this
            · exact h
          have hwant : Region.wanted o (yielded ops a.tmps) = true := by simp [Region.wanted, hgn]
          rw [if_pos hwant]
          have htn : b.t < E.n := by
            have := hdo
            rw [hdst] at this
            simpa [dstOk] using this
          have hrest : ∀ c ∈ al, c ≠ b → c.i ≠ b.i := fun c hc hne e => hne (fit.inj c hc b hb e)
          refine .inl (alloc_pend hΘ hr hopa hdst htn hti htz fun u w' S' γ' g hr' hu hnew hpd ht => ?_)
          have hsame : upd (slL sl prs lm) b.t .any = slL sl prs lm := by
            funext z
            by_cases hz : z = b.t
            · subst hz
              rw [upd_same, slL_miss, hany b hb]
              intro q x hq hl
              obtain ⟨_, x2, hx2⟩ := hpA b hb
              have := huniq q b.i b.t x x2 hq hx2
              subst this
              have := (ht2 b hb).1 hl
              omega
            · rw [upd_ne _ _ hz]
          rw [hsame] at hr'
          have hput : (a.put (some b.t) u).tmps.getD b.t undef = u := by
            have : b.t < a.tmps.size := by rw [hr.nn]; exact htn
            simp [Act.put, this]
          refine ih _ lm p (fun x => if x = b.i then g else G x) _ w' S' γ' (by simpa using hsz) hlsz hun2 hp (fun j x hj => ?_) hcl2 (fun x hx => ?_) ht2 hr' (fun c hc hl hpj' => ?_) (fun c hc d hdd hl1 hl2 hp1 hp2 hne => ?_)
          · have hne : x ≠ b.i := fun e => by
              have := fit.wk j x hj
              rw [e, hk] at this; cases this
            rw [getD_set_ne false (Ne.symm hne)]
            exact hwp j x hj
          · rw [getD_set_ne false (hx b hb)]
            exact ht1 x hx
          · by_cases hcb : c = b
            · subst hcb
              simp only [if_true]
              exact ⟨by rw [hput, hu], hpd⟩
            · have hci := hrest c hc hcb
              simp only [if_neg hci]
              rw [getD_set_ne false (Ne.symm hci)] at hl
              have := hdne c hc hci
              rw [hdst] at this
              exact (hpend c hc hl hpj').step hr.sto ht this
          · by_cases hcb : c.i = b.i
            · by_cases hdb : d.i = b.i
              · exact absurd (hcb.trans hdb.symm) hne
              · simp only [if_pos hcb, if_neg hdb]
                rw [getD_set_ne false (Ne.symm hdb)] at hl2
                have := (hpend d hdd hl2 hp2).2.lt
                omega
            · by_cases hdb : d.i = b.i
              · simp only [if_neg hcb, if_pos hdb]
                rw [getD_set_ne false (Ne.symm hcb)] at hl1
                have := (hpend c hc hl1 hp1).2.lt
                omega
              · simp only [if_neg hcb, if_neg hdb]
                rw [getD_set_ne false (Ne.symm hcb)] at hl1
                rw [getD_set_ne false (Ne.symm hdb)] at hl2
                exact hdis c hc d hdd hl1 hl2 hp1 hp2 hne
        | w j =>
          obtain ⟨hwj, hky⟩ := fit.w i j hk
          have hni := hnot (fun j k' h => by rw [hk] at h; cases h)
          have hjlt : j < wr.length := (List.getElem?_eq_some_iff.1 hwj).1
          have hpj : p = j := by
            have h1 : ¬ j < p := fun h => by
              have := (hwp j i hwj).2 h
              rw [h0f] at this; cases this
            rcases Nat.lt_or_ge p j with h | h
            · have hlt : p < wr.length := by omega
              have hw := List.getElem?_eq_getElem hlt
              have := (hwp p _ hw).1 (hanc _ (hky p _ hw h))
              omega
            · omega
          subst hpj
          have hmemL : ∀ b, b ∈ lsAt al p ↔ b ∈ al ∧ b.j = p := fun b => by simp [lsAt]
          have hlis : ∀ b ∈ al, b.j = p → listed.getD b.i false = true := fun b hb hbj => by
            obtain ⟨_, y, hy, hya⟩ := fit.aA b hb
            rw [hbj, hwj] at hy
            simp only [Option.some.injEq] at hy
            subst hy
            exact hanc _ hya
          obtain ⟨γ2, hr2, hpk⟩ := adoptAll (G := G) (lsAt al p) hr (fun b hb => by
            obtain ⟨h1, h2⟩ := (hmemL b).1 hb
            exact hpend b h1 (hlis b h1 h2) (by omega)) (by
            refine (fit.ndL p).imp_of_mem fun {b c} hb hc hne => ?_
            obtain ⟨h1, h2⟩ := (hmemL b).1 hb
            obtain ⟨h3, h4⟩ := (hmemL c).1 hc
            exact hdis b h1 c h3 (hlis b h1 h2) (hlis c h3 h4) (by omega) (by omega) hne)
          have hslots := matS_slL (sl0 := sl) huniq (lsAt al p) lm (ph p).2 (fun pos b hb => ⟨hpL p pos b hb, by
            have := (hpA b ((hmemL b).1 (List.mem_of_getElem? hb)).1).1
            omega⟩)
          simp only [hslots] at hr2
          have hsg := setAll_get (lsAt al p) lm
          have hsg' : ∀ x, ((setAll (lsAt al p) lm).getD x false = true ↔ lm.getD x false = true ∨ ∃ b ∈ lsAt al p, b.i = x) := fun x => hsg x (fun b hb => by
            have := (hpA b ((hmemL b).1 hb).1).1
            omega)
          have hsz2 := setAll_size (lsAt al p) lm
          generalize hlm2 : setAll (lsAt al p) lm = lm2 at hr2 hsg' hsz2
          have hle2 : ∀ x, lm2.getD x false = true → listed.getD x false = true := fun x hx => by
            rcases (hsg' x).1 hx with h | ⟨b, hb, rfl⟩
            · exact hle x h
            · obtain ⟨h1, h2⟩ := (hmemL b).1 hb
              exact hlis b h1 h2
          have hto : ∀ x, listed.getD x false = true → lm2.getD x false = true ∨ ∃ b ∈ al, b.i = x ∧ b.t ∉ o.looksAt ops := fun x hx => by
            by_cases hex : ∃ b ∈ al, b.i = x
            · obtain ⟨b, hb, rfl⟩ := hex
              by_cases hbj : b.j < p
              · exact .inl ((hsg' _).2 (.inl ((ht2 b hb).2 hbj)))
              · by_cases hbp : b.j = p
                · exact .inl ((hsg' _).2 (.inr ⟨b, (hmemL b).2 ⟨hb, hbp⟩, rfl⟩))
                · refine .inr ⟨b, hb, rfl, fun hlk => ?_⟩
                  rcases fit.us b hb i o ho hlk with h | ⟨y, h1, h2⟩
                  · obtain ⟨q1, q2⟩ := List.getElem?_eq_some_iff.1 h
                    obtain ⟨q3, q4⟩ := List.getElem?_eq_some_iff.1 hwj
                    rcases Nat.lt_trichotomy b.j p with hlt | heq | hgt
                    · exact hbj hlt
                    · exact hbp heq
                    · exact absurd (q4.trans q2.symm) ((List.pairwise_iff_getElem.1 fit.nd) p b.j q3 q1 hgt)
                  · exact hbj ((hwp _ _ h1).1 (hanc _ h2))
            · left
              refine (hsg' x).2 (.inl ?_)
              rw [ht1 x (fun b hb e => hex ⟨b, hb, e⟩)]; exact hx
          obtain ⟨c, v2, hgc, hvo, hsame, rfl⟩ := he
          have hgc2 : gdc ops ⟨slL sl prs lm2, (matO (lsAt al p) ((ph p).1, (ph p).2)).1, (matO (lsAt al p) ((ph p).1, (ph p).2)).2⟩ o.guard c := by
            unfold gdc at hgc ⊢
            split at hgc
            · exact hgc
            · rename_i j want hg
              have hgs : gsl ops ⟨slL sl prs lm2, (matO (lsAt al p) ((ph p).1, (ph p).2)).1, (matO (lsAt al p) ((ph p).1, (ph p).2)).2⟩ j = gsl ops ⟨slAt sl (prs.take i), (matO (lsAt al p) (ph p)).1, (matO (lsAt al p) (ph p)).2⟩ j := by
                unfold gsl
                split
                · rename_i d hd
                  refine (hsl listed lm2 i o hcl hle2 hto ho h0f hon' d ?_).symm
                  simp only [Oper.looksAt, List.mem_append, List.mem_filterMap]
                  right
                  rw [hg]
                  simp [hd]
                · rfl
              rw [hgs]; exact hgc
          have hlast : ∀ (u : Value) (w' : World) (S' : Nat → Prop) (γ' : Nat → Value), Rl E { sl := pt (slL sl prs lm2) o.dst (cnd c v2), o := (ph (p + 1)).1, nk := (ph (p + 1)).2 } (a.put o.dst u) w' S' γ' →
              Tr w S γ2 (matO (lsAt al p) ((ph p).1, (ph p).2)).1 (matO (lsAt al p) ((ph p).1, (ph p).2)).2 w' S' γ' (ph (p + 1)).1 (ph (p + 1)).2 → wpAny P .any ops (fun e a' w' => ∃ s', Rel E s' a' w' ∧ Q e s') fuel (listed.setIfInBounds i true) (a.put o.dst u) w' := by
            intro u w' S' γ' hr' ht
            refine ih _ (lm2.setIfInBounds i true) (p + 1) G _ w' S' γ' (by simpa using hsz) (by simp [hsz2, hlsz]) hun2 (by omega) (fun j x hj => ?_) hcl2 (fun x hx => ?_) (fun b hb => ?_) (by rw [slL_set huniq hpv (by omega)]; exact hr') (fun b hb hl hpb => ?_) (fun b hb c hc hl1 hl2 hp1 hp2 hne => ?_)
            · by_cases hx : x = i
              · subst hx
                have hjp : j = p := by
                  obtain ⟨h1a, h1b⟩ := List.getElem?_eq_some_iff.1 hj
                  obtain ⟨h2a, h2b⟩ := List.getElem?_eq_some_iff.1 hwj
                  rcases Nat.lt_trichotomy j p with hlt | heq | hgt
                  · exact absurd (h1b.trans h2b.symm) ((List.pairwise_iff_getElem.1 fit.nd) j p h1a h2a hlt)
                  · exact heq
                  · exact absurd (h2b.trans h1b.symm) ((List.pairwise_iff_getElem.1 fit.nd) p j h2a h1a hgt)
                rw [hseti, hjp]
                simp
              · rw [getD_set_ne false (Ne.symm hx), hwp j x hj]
                have : j ≠ p := fun e => hx (by
                  subst e
                  rw [hwj] at hj
                  exact (Option.some.inj hj).symm)
                omega
            · by_cases hxi : x = i
              · subst hxi
                rw [hseti]
                have : x < lm2.size := by omega
                simp [this]
              · rw [getD_set_ne false (Ne.symm hxi), getD_set_ne false (Ne.symm hxi), ← ht1 x hx, Bool.eq_iff_iff, hsg' x]
                constructor
                · rintro (h | ⟨b, hb, rfl⟩)
                  · exact h
                  · exact absurd rfl (hx b ((hmemL b).1 hb).1)
                · exact .inl
            · rw [getD_set_ne false (Ne.symm (hni b hb)), hsg' b.i, ht2 b hb]
              constructor
              · rintro (h | ⟨c, hc, hci⟩)
                · omega
                · obtain ⟨h1, h2⟩ := (hmemL c).1 hc
                  have := fit.inj c h1 b hb hci
                  subst this
                  omega
              · intro h
                by_cases hbp : b.j = p
                · exact .inr ⟨b, (hmemL b).2 ⟨hb, hbp⟩, rfl⟩
                · exact .inl (by omega)
            · rw [getD_set_ne false (Ne.symm (hni b hb))] at hl
              have h1 := hpend b hb hl (by omega)
              have h2 := hpk (G b.i) b.t b.l (fun c hc => by
                obtain ⟨q1, q2⟩ := (hmemL c).1 hc
                exact hdis b hb c q1 hl (hlis c q1 q2) (by omega) (by omega) (fun e => by
                  have := fit.inj b hb c q1 e
                  subst this
                  omega)) h1
              exact h2.step hr2.sto ht (hdne b hb (hni b hb))
            · rw [getD_set_ne false (Ne.symm (hni b hb))] at hl1
              rw [getD_set_ne false (Ne.symm (hni c hc))] at hl2
              exact hdis b hb c hc hl1 hl2 (by omega) (by omega) hne
          have hwant := gdc_wanted2 (o := o) ⟨S, γ2, hr2⟩ hgc2
          cases c with
          | true =>
            have hvo2 := vOp_congr (s := ⟨slAt sl (prs.take i), (matO (lsAt al p) (ph p)).1, (matO (lsAt al p) (ph p)).2⟩) (s' := ⟨slL sl prs lm2, (matO (lsAt al p) ((ph p).1, (ph p).2)).1, (matO (lsAt al p) ((ph p).1, (ph p).2)).2⟩) (fun x hx => by
              cases x with
              | tmp t =>
                refine hsl listed lm2 i o hcl hle2 hto ho h0f hon' t ?_
                simp only [Oper.looksAt, List.mem_append, List.mem_filterMap]
                exact .inl ⟨.tmp t, by simpa using hx, rfl⟩
              | _ => rfl) rfl rfl (hvo rfl)
            rw [if_pos hwant]
            refine .inl (op_stepL hΘ hr2 hdo hvo2 ?_)
            rintro v' o' nk' u w' S' γ' ⟨rfl, rfl, rfl⟩ hr' ht
            exact hlast u w' S' γ' (by rw [cnd_T]; exact hr') ht
          | false =>
            rw [if_neg (by rw [hwant]; simp)]
            have e := hsame rfl
            have hput := hr2.put hdo hr2.sto (Tr.refl _ _ _ _ _) (SR.tup [] [] rfl (by simp)) (show SV.lt _ (.tup []) from trivial) (u := undef)
            refine hlast undef w S γ2 (by rw [e, cnd_F]; exact hput) (by rw [e]; exact Tr.refl _ _ _ _ _)
  obtain ⟨S, γ, hr⟩ := hrel
  obtain ⟨m1, m2⟩ := hr.sto.more (w' := { w with drawn := w.drawn + 1 }) (fun _ => False) (fun _ h => h.elim) rfl rfl rfl (Nat.le_refl _) (fun _ _ => rfl)
  have hrepf : ∀ i, (Array.replicate ops.size false).getD i false = false := fun i => by
    simp only [Array.getD_eq_getD_getElem?, Array.getElem?_replicate]
    split <;> rfl
  have hsl0 : slL sl prs (Array.replicate ops.size false) = sl := by
    funext u
    refine slL_miss fun j v _ hl => ?_
    rw [hrepf] at hl; cases hl
  have hunl : ∀ m, unl (Array.replicate ops.size false) m ≤ m := by
    intro m
    induction m with
    | zero => simp [unl]
    | succ m ih => simp only [unl]; split <;> omega
  refine main ops.size (Array.replicate ops.size false) (Array.replicate ops.size false) 0 (fun _ => 0) a { w with drawn := w.drawn + 1 } (fun k => S k ∨ False) γ (by simp) (by simp) (hunl _) (Nat.zero_le _) (fun j i _ => ?_) (fun j p _ hl => ?_) (fun _ _ => rfl) (fun b _ => ?_) ?_ (fun b _ hl => ?_) (fun b _ c _ hl => ?_)
  · rw [hrepf]; simp
  · rw [hrepf] at hl; cases hl
  · rw [hrepf]; simp
  · rw [hsl0]
    exact ⟨m1, hr.tr.trans m2, fun u => (hr.sl u).tr hr.sto m2 (hr.slt u), hr.slt, hr.df, hr.nn⟩
  · rw [hrepf] at hl; cases hl
  · rw [hrepf] at hl; cases hl
end
end Go.Proofs.YtfgampmhjfffdaaGreat.Abs

/- A run of code that is computed: drawn regions with allocs that no edge orders. -/
set_option linter.unusedVariables false
set_option linter.unusedSimpArgs false
namespace Go.Proofs.YtfgampmhjfffdaaGreat.Abs
open Go

/-! ### the kinds, checked -/
def nodupN : List Nat → Bool
  | [] => true
  | x :: r => !r.contains x && nodupN r
theorem nodupN_ok : ∀ {l : List Nat}, nodupN l = true → l.Nodup
  | [], _ => List.nodup_nil
  | x :: r, h => by
    simp only [nodupN, Bool.and_eq_true, Bool.not_eq_true', List.contains_eq_mem, decide_eq_false_iff_not] at h
    exact List.nodup_cons.2 ⟨h.1, nodupN_ok h.2⟩
def isKw (k : Option KdP) (j : Nat) : Bool :=
  match k with
  | some (.w i) => decide (i = j)
  | _ => false
theorem isKw_ok {k : Option KdP} {j : Nat} (h : isKw k j = true) : k = some (.w j) := by
  unfold isKw at h
  split at h
  · simp at h; rw [h]
  · cases h
def isKa (k : Option KdP) (j : Nat) : Bool :=
  match k with
  | some (.a i _) => decide (i = j)
  | _ => false
theorem isKa_ok {k : Option KdP} {j : Nat} (h : isKa k j = true) : ∃ q, k = some (.a j q) := by
  unfold isKa at h
  split at h
  · simp at h; subst h; exact ⟨_, rfl⟩
  · cases h
def alOp (Θ : Tab) (ops : List Oper) (b : Al) : Bool :=
  match ops[b.i]? with
  | some o => o.guard.isNone && decide (o.dst = some b.t) && (match o.op with
    | .alloc e => match Θ e with
      | some i => match i.z with
        | some l => D.eqbs l b.l
        | none => false
      | none => false
    | _ => false)
  | none => false
theorem alOp_ok {Θ : Tab} {ops : List Oper} {b : Al} (h : alOp Θ ops b = true) : ∃ o e i, ops[b.i]? = some o ∧ o.op = .alloc e ∧ o.guard = none ∧ o.dst = some b.t ∧ Θ e = some i ∧ i.z = some b.l := by
  unfold alOp at h
  split at h
  · rename_i o ho
    simp only [Bool.and_eq_true, Option.isNone_iff_eq_none, decide_eq_true_eq] at h
    obtain ⟨⟨h1, h2⟩, h3⟩ := h
    split at h3
    · rename_i e he
      split at h3
      · rename_i i hi
        split at h3
        · rename_i l hl
          have := D.eqbs_ok _ _ h3
          subst this
          exact ⟨o, e, i, ho, he, h1, h2, hi, hl⟩
        · cases h3
      · cases h3
    · cases h3
  · cases h
def fitB (Θ : Tab) (ops : Array Oper) (kd : List KdP) (wr : List Nat) (al : List Al) : Bool :=
  decide (kd.length = ops.size) && nodupN wr && (wr.zipIdx.all fun x => isKw kd[x.1]? x.2) &&
  (kd.zipIdx.all fun x => match x.1 with
    | .q lo hi => decide (lo ≤ wr.length) && (wr.zipIdx.all fun y => (!decide (y.2 < lo) || ancB ops.toList x.2 y.1) && (!decide (hi ≤ y.2) || ancB ops.toList y.1 x.2))
    | .w j => decide (wr[j]? = some x.2) && wr.zipIdx.all fun y => !decide (y.2 < j) || ancB ops.toList x.2 y.1
    | .a j k => match (lsAt al j)[k]? with
      | some b => decide (b.i = x.2)
      | none => false) &&
  nodupN (al.map fun b => b.i) &&
  (al.all fun b => isKa kd[b.i]? b.j && alOp Θ ops.toList b && (match wr[b.j]? with
    | some x => ancB ops.toList x b.i && (ops.toList.zipIdx.all fun y => !(y.1.looksAt ops).contains b.t || decide (x = y.2) || ancB ops.toList y.2 x)
    | none => false))
theorem fitB_ok {Θ : Tab} {ops : Array Oper} {kd : List KdP} {wr : List Nat} {al : List Al} (h : fitB Θ ops kd wr al = true) : FitP Θ ops kd wr al := by
  unfold fitB at h
  simp only [Bool.and_eq_true, decide_eq_true_eq] at h
  obtain ⟨⟨⟨⟨⟨h1, h2⟩, h3⟩, h4⟩, h5⟩, h6⟩ := h
  have zi : ∀ {α : Type} {l : List α} {i : Nat} {x : α}, l[i]? = some x → (x, i) ∈ l.zipIdx := fun hx => by rw [List.mem_zipIdx_iff_getElem?]; exact hx
  have hnd := nodupN_ok h5
  have hpw : al.Pairwise fun b c => b.i ≠ c.i := List.pairwise_map.1 hnd
  have hal : ∀ b ∈ al, isKa kd[b.i]? b.j = true ∧ alOp Θ ops.toList b = true ∧ ∃ x, wr[b.j]? = some x ∧ ancB ops.toList x b.i = true ∧ ∀ i o, ops[i]? = some o → b.t ∈ o.looksAt ops → x = i ∨ ancB ops.toList i x = true := fun b hb => by
    have := List.all_eq_true.1 h6 b hb
    simp only [Bool.and_eq_true] at this
    obtain ⟨⟨k1, k2⟩, k3⟩ := this
    refine ⟨k1, k2, ?_⟩
    split at k3
    · rename_i x hx
      simp only [Bool.and_eq_true] at k3
      refine ⟨x, hx, k3.1, fun i o ho hlk => ?_⟩
      have := List.all_eq_true.1 k3.2 (o, i) (zi (by simpa using ho))
      simp only [Bool.or_eq_true, Bool.not_eq_true', List.contains_eq_mem, decide_eq_false_iff_not, decide_eq_true_eq] at this
      rcases this with (h | h) | h
      · exact absurd hlk h
      · exact .inl h
      · exact .inr h
    · cases k3
  refine ⟨h1, nodupN_ok h2, fun j i hj => isKw_ok (List.all_eq_true.1 h3 (i, j) (zi hj)), fun i lo hi hk => ?_, fun i j hk => ?_, fun i j k hk => ?_, fun b hb => ?_, fun b hb i o ho hlk => ?_, fun b hb => ?_, fun b hb c hc he => ?_, fun j => hpw.sublist List.filter_sublist⟩
  · have := List.all_eq_true.1 h4 (.q lo hi, i) (zi hk)
    simp only [Bool.and_eq_true, decide_eq_true_eq] at this
    refine ⟨this.1, fun j x hj => ?_⟩
    have := List.all_eq_true.1 this.2 (x, j) (zi hj)
    simp only [Bool.and_eq_true, Bool.or_eq_true, Bool.not_eq_true', decide_eq_false_iff_not] at this
    exact ⟨fun h => this.1.resolve_left (fun k => k h), fun h => this.2.resolve_left (fun k => k h)⟩
  · have := List.all_eq_true.1 h4 (.w j, i) (zi hk)
    simp only [Bool.and_eq_true, decide_eq_true_eq] at this
    refine ⟨this.1, fun j' x hj h => ?_⟩
    have := List.all_eq_true.1 this.2 (x, j') (zi hj)
    simp only [Bool.or_eq_true, Bool.not_eq_true', decide_eq_false_iff_not] at this
    exact this.resolve_left (fun k => k h)
  · have := List.all_eq_true.1 h4 (.a j k, i) (zi hk)
    simp only at this
    split at this
    · rename_i b hb
      have hm := List.mem_of_getElem? hb
      simp only [lsAt, List.mem_filter, decide_eq_true_eq] at hm
      exact ⟨b, hm.1, by simpa using this, hm.2, hb⟩
    · cases this
  · obtain ⟨k1, k2, x, k3, k4, _⟩ := hal b hb
    exact ⟨isKa_ok k1, x, k3, k4⟩
  · obtain ⟨_, _, x, k3, _, k5⟩ := hal b hb
    rcases k5 i o ho hlk with h | h
    · left; rw [k3, h]
    · exact .inr ⟨x, k3, h⟩
  · obtain ⟨_, k2, _⟩ := hal b hb
    obtain ⟨o, e, i, q1, q2⟩ := alOp_ok k2
    exact ⟨o, e, i, by simpa using q1, q2⟩
  · obtain ⟨p, hp⟩ := List.getElem?_of_mem hb
    obtain ⟨q, hq⟩ := List.getElem?_of_mem hc
    obtain ⟨p1, p2⟩ := List.getElem?_eq_some_iff.1 hp
    obtain ⟨q1, q2⟩ := List.getElem?_eq_some_iff.1 hq
    rcases Nat.lt_trichotomy p q with hlt | heq | hgt
    · exact absurd (by rw [p2, q2]; exact he) ((List.pairwise_iff_getElem.1 hpw) p q p1 q1 hlt)
    · subst heq; rw [← p2, ← q2]
    · exact absurd (by rw [p2, q2]; exact he.symm) ((List.pairwise_iff_getElem.1 hpw) q p q1 p1 hgt)

/-! ### the run -/
def matX : List Al → XS → XS
  | [], s => s
  | b :: r, s => matX r ⟨s.sl.set b.t (some (.loc s.nk 0)), s.o.set s.nk (some (.box (b.l.map .d))), s.nk + 1⟩
theorem matX_st : ∀ (r : List Al) (s : XS), (matX r s).st = ⟨matS r s.st.sl s.nk, (matO r (s.o.get, s.nk)).1, (matO r (s.o.get, s.nk)).2⟩
  | [], s => rfl
  | b :: r, s => by
    rw [matX, matX_st r]
    have e : (XS.st ⟨s.sl.set b.t (some (.loc s.nk 0)), s.o.set s.nk (some (.box (b.l.map .d))), s.nk + 1⟩).sl = upd s.st.sl b.t (.loc s.nk 0) := by
      have := put_st s (some b.t) (.loc s.nk 0) (s.o.set s.nk (some (.box (b.l.map .d)))) (s.nk + 1)
      simp only [putD] at this
      rw [this]; rfl
    rw [e]
    simp only [matS, matO, TM.get_set]
theorem matO_matX (r : List Al) (s : XS) : matO r (s.o.get, s.nk) = ((matX r s).o.get, (matX r s).nk) := by
  have := matX_st r s
  simp only [XS.st, St.mk.injEq] at this
  exact Prod.ext this.2.1.symm this.2.2.symm
theorem matS_hit {F : Nat → SV} : ∀ (r : List Al) (sl : Nat → SV) (nk : Nat), (∀ (pos : Nat) (b : Al), r[pos]? = some b → F b.t = .loc (nk + pos) 0) → ∀ u, matS r sl nk u = F u ∨ (matS r sl nk u = sl u ∧ ∀ b ∈ r, b.t ≠ u)
  | [], sl, nk, _, u => .inr ⟨rfl, by simp⟩
  | b :: r, sl, nk, h, u => by
    rw [matS]
    have h0 := h 0 b rfl
    rcases matS_hit (F := F) r (upd sl b.t (.loc nk 0)) (nk + 1) (fun pos c hc => by rw [h (pos + 1) c (by simpa using hc)]; congr 1; omega) u with h1 | ⟨h1, h2⟩
    · exact .inl h1
    · by_cases hu : u = b.t
      · subst hu
        left; rw [h1, upd_same, h0]; rfl
      · right
        refine ⟨by rw [h1, upd_ne _ _ hu], fun c hc => ?_⟩
        rcases List.mem_cons.1 hc with rfl | hc
        · exact Ne.symm hu
        · exact h2 c hc

section
variable (Θ : Tab) (call : Nat → List SV → TM AO → Nat → Option XR)
def xDrP (ops : Array Oper) (al : List Al) : List Oper → List KdP → XS → Option (List SV × List (TM AO × Nat) × TM SV)
  | [], [], s => some ([], [], s.sl)
  | op :: r, .w j :: ks, s => match matX (lsAt al j) s with
    | s1 => match xG Θ call ops op s1 with
      | none => none
      | some (v, o', nk') => match xDrP ops al r ks ⟨putD s1.sl op.dst v, o', nk'⟩ with
        | none => none
        | some (vs, phs, sl) => some (v :: vs, (o', nk') :: phs, sl)
  | op :: r, .q _ _ :: ks, s => match xG Θ call ops op s with
    | none => none
    | some (v, _, _) => match xDrP ops al r ks ⟨putD s.sl op.dst v, s.o, s.nk⟩ with
      | none => none
      | some (vs, phs, sl) => some (v :: vs, phs, sl)
  | op :: r, .a _ _ :: ks, s => match xDrP ops al r ks s with
    | none => none
    | some (vs, phs, sl) => some (.any :: vs, phs, sl)
  | _, _, _ => none
def patchV (L : List (TM AO × Nat)) : List KdP → List SV → List SV
  | .a j k :: ks, _ :: vs => (match L[j]? with
    | some (_, nk) => .loc (nk + k) 0
    | none => .any) :: patchV L ks vs
  | .q _ _ :: ks, v :: vs => v :: patchV L ks vs
  | .w _ :: ks, v :: vs => v :: patchV L ks vs
  | _, _ => []
def xChkP (ops : Array Oper) (al : List Al) (L : List (TM AO × Nat)) : List Oper → List KdP → List SV → TM SV → Nat → Bool
  | [], [], [], _, _ => true
  | op :: r, .w j :: ks, v :: vs, sl, p => decide (j = p) && (match L[j]? with
    | none => false
    | some (o, nk) => xChkP ops al L r ks vs (putD (matX (lsAt al j) ⟨sl, o, nk⟩).sl op.dst v) (p + 1))
  | op :: r, .q lo hi :: ks, v :: vs, sl, p => isQ op.op && (allX (hi - lo) (fun q => match L[q]? with
      | none => false
      | some (o, nk) => match xG Θ call ops op ⟨sl, o, nk⟩ with
        | none => false
        | some (v2, _, nk2) => SV.eqb v v2 && decide (nk2 = nk)) lo) && xChkP ops al L r ks vs (putD sl op.dst v) p
  | op :: r, .a _ _ :: ks, v :: vs, sl, p => xChkP ops al L r ks vs sl p
  | _, _, _, _, _ => false
end
theorem patch_len {L : List (TM AO × Nat)} : ∀ (ks : List KdP) (vs : List SV), ks.length = vs.length → (patchV L ks vs).length = ks.length
  | [], [], _ => rfl
  | k :: ks, [], h => by simp at h
  | [], v :: vs, h => by simp at h
  | k :: ks, v :: vs, h => by
    have := patch_len (L := L) ks vs (by simpa using h)
    cases k <;> simp [patchV, this]
theorem patch_a {L : List (TM AO × Nat)} : ∀ (ks : List KdP) (vs : List SV) (i j k : Nat) (v : SV), ks[i]? = some (.a j k) → (patchV L ks vs)[i]? = some v → v = match L[j]? with
    | some (_, nk) => .loc (nk + k) 0
    | none => .any
  | [], vs, i, j, k, v, h, _ => by simp at h
  | q :: ks, [], i, j, k, v, _, h => by cases q <;> simp [patchV] at h
  | q :: ks, x :: vs, 0, j, k, v, h1, h2 => by
    simp only [List.getElem?_cons_zero, Option.some.injEq] at h1
    subst h1
    simp only [patchV, List.getElem?_cons_zero, Option.some.injEq] at h2
    exact h2.symm
  | q :: ks, x :: vs, i + 1, j, k, v, h1, h2 => by
    refine patch_a ks vs i j k v (by simpa using h1) ?_
    cases q <;> simpa [patchV] using h2
theorem xDrP_len {Θ : Tab} {call : Nat → List SV → TM AO → Nat → Option XR} {ops : Array Oper} {al : List Al} : ∀ (l : List Oper) (ks : List KdP) (s : XS) (vs : List SV) (phs : List (TM AO × Nat)) (fsl : TM SV), xDrP Θ call ops al l ks s = some (vs, phs, fsl) → vs.length = l.length ∧ ks.length = vs.length
  | [], [], s, vs, phs, fsl, h => by simp only [xDrP, Option.some.injEq, Prod.mk.injEq] at h; obtain ⟨rfl, _, _⟩ := h; exact ⟨rfl, rfl⟩
  | [], k :: ks, s, vs, phs, fsl, h => by simp [xDrP] at h
  | op :: r, [], s, vs, phs, fsl, h => by simp [xDrP] at h
  | op :: r, .w j :: ks, s, vs, phs, fsl, h => by
    simp only [xDrP] at h
    split at h
    · cases h
    · split at h
      · cases h
      · rename_i hx
        simp only [Option.some.injEq, Prod.mk.injEq] at h
        obtain ⟨rfl, _, _⟩ := h
        have := xDrP_len r ks _ _ _ _ hx
        simp [this.1, this.2]
  | op :: r, .q lo hi :: ks, s, vs, phs, fsl, h => by
    simp only [xDrP] at h
    split at h
    · cases h
    · split at h
      · cases h
      · rename_i hx
        simp only [Option.some.injEq, Prod.mk.injEq] at h
        obtain ⟨rfl, _, _⟩ := h
        have := xDrP_len r ks _ _ _ _ hx
        simp [this.1, this.2]
  | op :: r, .a j k :: ks, s, vs, phs, fsl, h => by
    simp only [xDrP] at h
    split at h
    · cases h
    · rename_i hx
      simp only [Option.some.injEq, Prod.mk.injEq] at h
      obtain ⟨rfl, _, _⟩ := h
      have := xDrP_len r ks _ _ _ _ hx
      simp [this.1, this.2]
theorem slAt_snoc {sl : Nat → SV} {d : Option Nat} {v : SV} : ∀ (q : List (Option Nat × SV)) (sl : Nat → SV), slAt sl (q ++ [(d, v)]) = pt (slAt sl q) d v
  | [], sl => rfl
  | p :: q, sl => by
    rw [List.cons_append, slAt, slAt]
    exact slAt_snoc (sl := sl) q _
theorem drop_cons {α : Type} {l r : List α} {x : α} {i : Nat} (h : x :: r = l.drop i) : l[i]? = some x ∧ r = l.drop (i + 1) := by
  have h1 : (l.drop i)[0]? = some x := by rw [← h]; rfl
  refine ⟨by simpa using h1, ?_⟩
  rw [← List.drop_drop, ← h]; rfl

section
variable {Θ : Tab} {call : Nat → List SV → TM AO → Nat → Option XR}
theorem xDrP_ok {P : Program} (hc : CallOk P call) {ops : Array Oper} {kd : List KdP} {wr : List Nat} {al : List Al} (fit : FitP Θ ops kd wr al) (hflow : flowOk ops = true) {L : List (TM AO × Nat)} {vsF : List SV} {sl0 : Nat → SV} (hvl : vsF.length = ops.size) (hLl : wr.length < L.length)
    (hal : ∀ (i j k : Nat) (v : SV), kd[i]? = some (.a j k) → vsF[i]? = some v → v = match L[j]? with
      | some (_, nk) => .loc (nk + k) 0
      | none => .any) {fsl : TM SV} :
    ∀ (l : List Oper) (ks : List KdP) (s : XS) (vs : List SV) (phs pre : List (TM AO × Nat)) (i p : Nat), l = ops.toList.drop i → ks = kd.drop i → xDrP Θ call ops al l ks s = some (vs, phs, fsl) → pre.length = p → L = pre ++ (s.o, s.nk) :: phs →
      xChkP Θ call ops al L l ks vs s.sl p = true → vsF.drop i = patchV L ks vs →
      (∀ u, s.st.sl u = slAt sl0 (((ops.toList.map (·.dst)).zip vsF).take i) u ∨ ∃ b ∈ al, b.t = u ∧ b.i < i ∧ ∀ x, wr[b.j]? = some x → i ≤ x) →
      (∀ (m : Nat) (o : Oper) (v : SV) (k : KdP), i ≤ m → ops[m]? = some o → vsF[m]? = some v → kd[m]? = some k → eOpP P Θ ops (phx L) al o (slAt sl0 (((ops.toList.map (·.dst)).zip vsF).take m)) v k) ∧
      ∀ u, (fsl.get u).getD .any = slAt sl0 ((ops.toList.map (·.dst)).zip vsF) u := by
  have hwlt : ∀ j x, wr[j]? = some x → x < ops.size := fun j x hj => by
    have := (List.getElem?_eq_some_iff.1 (fit.wk j x hj)).1
    rw [fit.kl] at this
    exact this
  have hon : ∀ (i : Nat) (o : Oper), ops.toList[i]? = some o → ∀ k ∈ onsOf o, k < i := fun i o ho => (flow_spec hflow (by simpa using ho)).1
  have hancL : ∀ (n i k : Nat), k ∈ (ancs ops.toList n).getD i [] → k < i := by
    intro n
    induction n with
    | zero => intro i k hk; simp [ancs] at hk
    | succ n ih =>
      intro i k hk
      by_cases hi : i < n
      · rw [ancs, List.getD_eq_getElem?_getD, List.getElem?_append_left (by rw [ancs_length]; exact hi), ← List.getD_eq_getElem?_getD] at hk
        exact ih i k hk
      · by_cases he : i = n
        · subst he
          rw [ancs, List.getD_eq_getElem?_getD, List.getElem?_append_right (by rw [ancs_length]; exact Nat.le_refl _), ancs_length, Nat.sub_self] at hk
          cases ho : ops.toList[i]? with
          | none => rw [ho] at hk; simp at hk
          | some o =>
            rw [ho] at hk
            simp only [List.getElem?_cons_zero, Option.getD_some, List.mem_eraseDups, List.mem_append, List.mem_flatMap] at hk
            rcases hk with hk | ⟨j, hj, hk⟩
            · exact hon i o ho k hk
            · have := hon i o ho j hj
              have := ih j k hk
              omega
        · rw [List.getD_eq_getElem?_getD, List.getElem?_eq_none (by rw [ancs_length]; omega)] at hk
          simp at hk
  have hanc : ∀ i k, ancB ops.toList i k = true → k < i := fun i k h => hancL _ i k (by simpa [ancB] using h)
  have hprs : ∀ (i : Nat) (o : Oper) (v : SV), ops[i]? = some o → vsF[i]? = some v → ((ops.toList.map (·.dst)).zip vsF)[i]? = some (o.dst, v) := fun i o v ho hv => by
    rw [List.getElem?_zip_eq_some]
    refine ⟨?_, hv⟩
    rw [List.getElem?_map]
    have : ops.toList[i]? = some o := by simpa using ho
    rw [this]; rfl
  have hback : ∀ (j : Nat) (d : Option Nat) (v : SV), ((ops.toList.map (·.dst)).zip vsF)[j]? = some (d, v) → ∃ o, ops[j]? = some o ∧ o.dst = d ∧ vsF[j]? = some v := fun j d v hj => by
    rw [List.getElem?_zip_eq_some, List.getElem?_map] at hj
    obtain ⟨h1, h2⟩ := hj
    obtain ⟨o, ho, rfl⟩ := Option.map_eq_some_iff.1 h1
    exact ⟨o, by simpa using ho, rfl, h2⟩
  have huniq : Uniq ((ops.toList.map (·.dst)).zip vsF) := fun i j u v x hi hj => by
    obtain ⟨o, ho, hod, _⟩ := hback i _ v hi
    obtain ⟨p, hp, hpd, _⟩ := hback j _ x hj
    have := (flow_spec hflow ho).2 j p hp
    simp only [flowAt, hpd, Bool.and_eq_true, Bool.or_eq_true, beq_iff_eq] at this
    rcases this.1 with h1 | h1
    · exact h1
    · simp [hod] at h1
  have hsnoc : ∀ (i : Nat) (o : Oper) (v : SV), ops[i]? = some o → vsF[i]? = some v → slAt sl0 (((ops.toList.map (·.dst)).zip vsF).take (i + 1)) = pt (slAt sl0 (((ops.toList.map (·.dst)).zip vsF).take i)) o.dst v := fun i o v ho hv => by
    rw [List.take_add_one, hprs i o v ho hv]
    exact slAt_snoc (sl := sl0) _ _
  have hpt : ∀ (f g : Nat → SV) (d : Option Nat) (v : SV) (u : Nat), f u = g u → pt f d v u = pt g d v u := fun f g d v u h => by
    cases d with
    | none => exact h
    | some d => simp only [pt, upd, h]
  have hptd : ∀ (f g : Nat → SV) (d : Option Nat) (v : SV) (u : Nat), d = some u → pt f d v u = pt g d v u := fun f g d v u h => by
    subst h; simp [pt, upd_same]
  have hptn : ∀ (f : Nat → SV) (d : Option Nat) (v : SV) (u : Nat), d ≠ some u → pt f d v u = f u := fun f d v u h => by
    cases d with
    | none => rfl
    | some d => exact upd_ne _ _ fun e => h (by rw [e])
  -- what an operation looks at is told
  have hlook : ∀ (i : Nat) (o : Oper) (b : Al), ops[i]? = some o → b ∈ al → b.t ∈ o.looksAt ops → (∀ x, wr[b.j]? = some x → i ≤ x) → wr[b.j]? = some i := fun i o b ho hb hlk hx => by
    rcases fit.us b hb i o ho hlk with h | ⟨x, h1, h2⟩
    · exact h
    · have := hx x h1
      have := hanc _ _ h2
      omega
  intro l
  induction l with
  | nil =>
    intro ks s vs phs pre i p hl hks h hp hL hk hvs hinv
    cases ks with
    | cons k ks => simp [xDrP] at h
    | nil =>
      simp only [xDrP, Option.some.injEq, Prod.mk.injEq] at h
      obtain ⟨rfl, rfl, rfl⟩ := h
      have hi : ops.size ≤ i := by
        have := congrArg List.length hl
        simp at this; omega
      refine ⟨fun m o v k hm ho => ?_, fun u => ?_⟩
      · have := (Array.getElem?_eq_some_iff.1 ho).1
        omega
      · have e : ((ops.toList.map (·.dst)).zip vsF).take i = (ops.toList.map (·.dst)).zip vsF := List.take_of_length_le (by simp [hvl]; omega)
        rcases hinv u with h | ⟨b, hb, rfl, h1, h2⟩
        · rw [← e]; exact h
        · obtain ⟨_, x, hx, _⟩ := fit.aA b hb
          have := h2 x hx
          have := hwlt _ _ hx
          omega
  | cons op r ihl =>
    intro ks s vs phs pre i p hl hks h hp hL hk hvs hinv
    obtain ⟨hop, hr⟩ := drop_cons hl
    have hop : ops[i]? = some op := by simpa using hop
    have hilt : i < ops.size := (Array.getElem?_eq_some_iff.1 hop).1
    obtain ⟨v', hv'⟩ : ∃ v', vsF[i]? = some v' := ⟨_, List.getElem?_eq_getElem (by omega)⟩
    have hsn := hsnoc i op v' hop hv'
    cases ks with
    | nil => simp [xDrP] at h
    | cons k ks =>
      obtain ⟨hki, hks2⟩ := drop_cons hks
      have fin : ∀ (Z : Prop), (∀ (m : Nat) (o : Oper) (v : SV) (k : KdP), i + 1 ≤ m → ops[m]? = some o → vsF[m]? = some v → kd[m]? = some k → eOpP P Θ ops (phx L) al o (slAt sl0 (((ops.toList.map (·.dst)).zip vsF).take m)) v k) ∧ Z →
          eOpP P Θ ops (phx L) al op (slAt sl0 (((ops.toList.map (·.dst)).zip vsF).take i)) v' k →
          (∀ (m : Nat) (o : Oper) (v : SV) (k : KdP), i ≤ m → ops[m]? = some o → vsF[m]? = some v → kd[m]? = some k → eOpP P Θ ops (phx L) al o (slAt sl0 (((ops.toList.map (·.dst)).zip vsF).take m)) v k) ∧ Z := by
        rintro Z ⟨h1, h2⟩ h3
        refine ⟨fun m o v q hm ho hv hq => ?_, h2⟩
        by_cases hmi : m = i
        · subst hmi
          rw [hop] at ho; rw [hv'] at hv; rw [hki] at hq
          simp only [Option.some.injEq] at ho hv hq
          subst ho; subst hv; subst hq
          exact h3
        · exact h1 m o v q (by omega) ho hv hq
      cases k with
      | a j k =>
        simp only [xDrP] at h
        split at h
        · cases h
        · rename_i vs1 phs1 sl1 hx
          simp only [Option.some.injEq, Prod.mk.injEq] at h
          obtain ⟨rfl, rfl, rfl⟩ := h
          simp only [xChkP] at hk
          rw [patchV] at hvs
          obtain ⟨_, hvs2⟩ := drop_cons hvs.symm
          obtain ⟨b, hb, hbi, hbj, hbk⟩ := fit.a i j k hki
          obtain ⟨o2, e2, i2, q1, q2, q3, q4, q5⟩ := fit.op b hb
          rw [hbi, hop] at q1
          simp only [Option.some.injEq] at q1
          subst q1
          refine fin _ (ihl ks s vs1 phs1 pre (i + 1) p hr hks2 hx hp hL hk hvs2.symm fun u => ?_) ?_
          · by_cases hu : u = b.t
            · subst hu
              obtain ⟨_, x, hx, hxa⟩ := fit.aA b hb
              refine .inr ⟨b, hb, rfl, by omega, fun y hy => ?_⟩
              rw [hx] at hy
              simp only [Option.some.injEq] at hy
              subst hy
              have := hanc _ _ hxa
              omega
            · rw [hsn, hptn _ _ _ _ (by rw [q4]; simpa using Ne.symm hu)]
              rcases hinv u with h | ⟨c, hc, h1, h2, h3⟩
              · exact .inl h
              · refine .inr ⟨c, hc, h1, by omega, fun x hx => ?_⟩
                have := h3 x hx
                have hne : x ≠ i := fun e => by
                  have := fit.wk _ _ hx
                  rw [e, hki] at this; cases this
                omega
          · show v' = _
            rw [hal i j k v' hki hv']
            simp only [phx]
            obtain ⟨_, x, hx2, _⟩ := fit.aA b hb
            have : j < L.length := by
              have := (List.getElem?_eq_some_iff.1 hx2).1
              omega
            rw [List.getElem?_eq_getElem this]
      | q lo hi =>
        simp only [xDrP] at h
        split at h
        · cases h
        · rename_i v o' nk' hx
          split at h
          · cases h
          · rename_i vs1 phs1 sl1 hx1
            simp only [Option.some.injEq, Prod.mk.injEq] at h
            obtain ⟨rfl, rfl, rfl⟩ := h
            simp only [xChkP, Bool.and_eq_true] at hk
            obtain ⟨⟨hq, hall⟩, hk⟩ := hk
            rw [patchV] at hvs
            obtain ⟨hv2, hvs2⟩ := drop_cons hvs.symm
            rw [hv'] at hv2
            simp only [Option.some.injEq] at hv2
            subst hv2
            have hnw : ∀ j, wr[j]? ≠ some i := fun j hj => by
              have := fit.wk _ _ hj
              rw [hki] at this; cases this
            refine fin _ (ihl ks ⟨putD s.sl op.dst v', s.o, s.nk⟩ vs1 phs1 pre (i + 1) p hr hks2 hx1 hp hL hk hvs2.symm fun u => ?_) ?_
            · rw [put_st]
              show pt s.st.sl op.dst v' u = _ ∨ _
              rw [hsn]
              by_cases hd : op.dst = some u
              · exact .inl (hptd _ _ _ _ _ hd)
              · rcases hinv u with h | ⟨c, hc, h1, h2, h3⟩
                · exact .inl (hpt _ _ _ _ _ h)
                · refine .inr ⟨c, hc, h1, by omega, fun x hx => ?_⟩
                  have := h3 x hx
                  have hne : x ≠ i := fun e => hnw _ (e ▸ hx)
                  omega
            · simp only [eOpP]
              refine allX_ok (fun q hqq => ?_) _ _ hall
              split at hqq
              · cases hqq
              · rename_i o2 nk2 hLq
                split at hqq
                · cases hqq
                · rename_i v2 o3 nk3 hg
                  simp only [Bool.and_eq_true, decide_eq_true_eq] at hqq
                  have hv := SV.eqb_ok hqq.1
                  subst hv
                  have := xG_q (P := P) hc hq hg hqq.2
                  simp only [phx, hLq]
                  refine gOp_congr (s := ⟨s.st.sl, o2.get, nk2⟩) (fun u hu => ?_) rfl rfl this
                  rcases hinv u with h | ⟨c, hc, h1, h2, h3⟩
                  · exact h
                  · subst h1
                    exact absurd (hlook i op c hop hc hu h3) (hnw _)
      | w j =>
        simp only [xDrP] at h
        obtain ⟨hwj, hky⟩ := fit.w i j hki
        split at h
        · cases h
        · rename_i v o' nk' hx
          split at h
          · cases h
          · rename_i vs1 phs1 sl1 hx1
            simp only [Option.some.injEq, Prod.mk.injEq] at h
            obtain ⟨rfl, rfl, rfl⟩ := h
            simp only [xChkP, Bool.and_eq_true, decide_eq_true_eq] at hk
            obtain ⟨rfl, hk⟩ := hk
            have hLp : L[j]? = some (s.o, s.nk) := by rw [hL, List.getElem?_append_right (by omega), hp]; simp
            have hLp1 : L[j + 1]? = some (o', nk') := by rw [hL, List.getElem?_append_right (by omega), hp]; simp
            rw [hLp] at hk
            simp only at hk
            rw [patchV] at hvs
            obtain ⟨hv2, hvs2⟩ := drop_cons hvs.symm
            rw [hv'] at hv2
            simp only [Option.some.injEq] at hv2
            subst hv2
            have hF : ∀ (pos : Nat) (b : Al), (lsAt al j)[pos]? = some b → slAt sl0 (((ops.toList.map (·.dst)).zip vsF).take i) b.t = .loc (s.nk + pos) 0 := fun pos b hb => by
              have hm := List.mem_of_getElem? hb
              simp only [lsAt, List.mem_filter, decide_eq_true_eq] at hm
              obtain ⟨hbm, hbj⟩ := hm
              obtain ⟨o2, e2, i2, q1, _, _, q4, _⟩ := fit.op b hbm
              obtain ⟨⟨k, hk⟩, x, hx, hxa⟩ := fit.aA b hbm
              obtain ⟨c, hc, hci, hcj, hck⟩ := fit.a _ _ _ hk
              obtain rfl := fit.inj c hc b hbm hci
              have hkp : k = pos := by
                rw [hbj] at hck
                obtain ⟨q1, q2⟩ := List.getElem?_eq_some_iff.1 hck
                obtain ⟨q3, q4⟩ := List.getElem?_eq_some_iff.1 hb
                rcases Nat.lt_trichotomy k pos with hlt | heq | hgt
                · exact absurd (by rw [q2, q4]) ((List.pairwise_iff_getElem.1 (fit.ndL j)) k pos q1 q3 hlt)
                · exact heq
                · exact absurd (by rw [q2, q4]) ((List.pairwise_iff_getElem.1 (fit.ndL j)) pos k q3 q1 hgt)
              rw [hbj, hwj] at hx
              simp only [Option.some.injEq] at hx
              subst hx
              have hlt := hanc _ _ hxa
              have hvb : vsF[c.i]? = some (vsF[c.i]'(by omega)) := List.getElem?_eq_getElem _
              have hval := hal c.i c.j k _ hk hvb
              rw [hbj, hLp] at hval
              simp only at hval
              have hpr := hprs c.i o2 _ q1 hvb
              rw [hval, q4, hkp] at hpr
              refine slAt_hit _ _ c.i (by rw [List.getElem?_take, if_pos hlt]; exact hpr) fun m y hm => ?_
              rw [List.getElem?_take] at hm
              split at hm
              · exact huniq m c.i c.t y _ hm hpr
              · cases hm
            have hinv1 : ∀ u, (matX (lsAt al j) s).st.sl u = slAt sl0 (((ops.toList.map (·.dst)).zip vsF).take i) u ∨ ∃ b ∈ al, b.t = u ∧ b.j ≠ j ∧ b.i < i ∧ ∀ x, wr[b.j]? = some x → i ≤ x := fun u => by
              rw [matX_st]
              rcases matS_hit (F := slAt sl0 (((ops.toList.map (·.dst)).zip vsF).take i)) (lsAt al j) s.st.sl s.nk hF u with h | ⟨h1, h2⟩
              · exact .inl h
              · rcases hinv u with h | ⟨c, hc, q1, q2, q3⟩
                · exact .inl (h1.trans h)
                · refine .inr ⟨c, hc, q1, fun e => ?_, q2, q3⟩
                  exact h2 c (by simp [lsAt, hc, e]) q1
            refine fin _ (ihl ks ⟨putD (matX (lsAt al j) s).sl op.dst v', o', nk'⟩ vs1 phs1 (pre ++ [(s.o, s.nk)]) (i + 1) (j + 1) hr hks2 hx1 (by simp [hp]) (by rw [hL]; simp) hk hvs2.symm fun u => ?_) ?_
            · rw [put_st]
              show pt (matX (lsAt al j) s).st.sl op.dst v' u = _ ∨ _
              rw [hsn]
              by_cases hd : op.dst = some u
              · exact .inl (hptd _ _ _ _ _ hd)
              · rcases hinv1 u with h | ⟨c, hc, h1, hne, h2, h3⟩
                · exact .inl (hpt _ _ _ _ _ h)
                · refine .inr ⟨c, hc, h1, by omega, fun x hx => ?_⟩
                  have := h3 x hx
                  have hne : x ≠ i := fun e => by
                    have h4 := fit.wk _ _ hx
                    rw [e, hki] at h4
                    simp only [Option.some.injEq, KdP.w.injEq] at h4
                    exact hne h4.symm
                  omega
            · have hm1 : matO (lsAt al j) (s.o.get, s.nk) = ((matX (lsAt al j) s).o.get, (matX (lsAt al j) s).nk) := matO_matX _ _
              simp only [eOpP, phx, hLp, hLp1, hm1]
              have hsl : ∀ u ∈ op.looksAt ops, (matX (lsAt al j) s).st.sl u = slAt sl0 (((ops.toList.map (·.dst)).zip vsF).take i) u := fun u hu => by
                rcases hinv1 u with h | ⟨c, hc, h1, hne, h2, h3⟩
                · exact h
                · subst h1
                  have := hlook i op c hop hc hu h3
                  have h4 := fit.wk _ _ this
                  rw [hki] at h4
                  simp only [Option.some.injEq, KdP.w.injEq] at h4
                  exact absurd h4.symm hne
              have hgd : ∀ c, gdc ops (matX (lsAt al j) s).st op.guard c → gdc ops ⟨slAt sl0 (((ops.toList.map (·.dst)).zip vsF).take i), (matX (lsAt al j) s).o.get, (matX (lsAt al j) s).nk⟩ op.guard c := fun c hgc => by
                unfold gdc at hgc ⊢
                split at hgc
                · exact hgc
                · rename_i q want hg
                  have hgs : gsl ops (matX (lsAt al j) s).st q = gsl ops ⟨slAt sl0 (((ops.toList.map (·.dst)).zip vsF).take i), (matX (lsAt al j) s).o.get, (matX (lsAt al j) s).nk⟩ q := by
                    unfold gsl
                    split
                    · rename_i d hd
                      refine hsl d ?_
                      simp only [Oper.looksAt, List.mem_append, List.mem_filterMap]
                      right
                      rw [hg]
                      simp [hd]
                    · rfl
                  rw [← hgs]; exact hgc
              unfold xG at hx
              split at hx
              · cases hx
              · rename_i hg
                simp only [Option.some.injEq, Prod.mk.injEq] at hx
                obtain ⟨rfl, rfl, rfl⟩ := hx
                exact ⟨false, .any, hgd _ (xGuard_ok hg), fun e => (by cases e), fun _ => rfl, (cnd_F _).symm⟩
              · rename_i hg
                refine ⟨true, v', hgd _ (xGuard_ok hg), fun _ => ?_, fun e => (by cases e), (cnd_T v').symm⟩
                refine vOp_congr (s := (matX (lsAt al j) s).st) (fun x hx' => ?_) rfl rfl (xOp_ok hc hx (K := fun v'' o'' nk'' => v'' = v' ∧ o'' = o'.get ∧ nk'' = nk') ⟨rfl, rfl, rfl⟩)
                cases x with
                | tmp t =>
                  refine hsl t ?_
                  simp only [Oper.looksAt, List.mem_append, List.mem_filterMap]
                  exact .inl ⟨.tmp t, by simpa using hx', rfl⟩
                | _ => rfl
end

/-! ### the kinds, found -/
def ordB (an : List (List Nat)) (i k : Nat) : Bool := (an.getD i []).contains k || (an.getD k []).contains i
def isPA (op : Oper) : Bool :=
  match op.op with
  | .alloc _ => op.guard.isNone && op.dst.isSome
  | _ => false
def pendL (ops : List Oper) (an : List (List Nat)) (ws : List Nat) : List Nat := ws.filter fun i => (match ops[i]? with
  | some o => isPA o
  | none => false) && !(ws.all fun k => Nat.beq i k || ordB an i k)
def mkAl (Θ : Tab) (ops : List Oper) (an : List (List Nat)) (wr : List Nat) : List Nat → List Al
  | [] => []
  | i :: r => match ops[i]? with
    | some o => match o.op, o.dst with
      | .alloc e, some t => match Θ e with
        | some ti => match ti.z with
          | some l => ⟨i, t, takeN (fun x => !(an.getD x []).contains i) wr, l⟩ :: mkAl Θ ops an wr r
          | none => []
        | none => []
      | _, _ => []
    | none => []
def plA (i : Nat) : List Al → List Al → Option (Nat × Nat)
  | _, [] => none
  | seen, b :: r => bif Nat.beq b.i i then some (b.j, (seen.filter fun c => Nat.beq c.j b.j).length) else plA i (seen ++ [b]) r
def kdP (an : List (List Nat)) (wr : List Nat) (al : List Al) : List Oper → Nat → Nat → List KdP
  | [], _, _ => []
  | op :: r, i, j => match plA i [] al with
    | some (a, k) => .a a k :: kdP an wr al r (i + 1) j
    | none => bif isW op.op then .w j :: kdP an wr al r (i + 1) (j + 1)
      else .q (takeN (fun w => (an.getD i []).contains w) wr) (takeN (fun w => !(an.getD w []).contains i) wr) :: kdP an wr al r (i + 1) j
def clrA : List Al → TM SV → TM SV
  | [], sl => sl
  | b :: r, sl => clrA r (sl.set b.t none)
theorem clrA_get : ∀ (al : List Al) (sl : TM SV) (u : Nat), (clrA al sl).get u = sl.get u ∨ (clrA al sl).get u = none
  | [], sl, u => .inl rfl
  | b :: r, sl, u => by
    rw [clrA]
    rcases clrA_get r (sl.set b.t none) u with h | h
    · rw [h, TM.get_set]
      unfold upd
      split
      · exact .inr rfl
      · exact .inl rfl
    · exact .inr h
theorem clrA_al : ∀ (al : List Al) (sl : TM SV), ∀ b ∈ al, (clrA al sl).get b.t = none
  | [], sl, b, h => by simp at h
  | b :: r, sl, c, h => by
    rw [clrA]
    rcases List.mem_cons.1 h with rfl | h
    · rcases clrA_get r (sl.set c.t none) c.t with h | h
      · rw [h, TM.get_set, upd_same]
      · exact h
    · exact clrA_al r _ c h
section
variable (Θ : Tab) (call : Nat → List SV → TM AO → Nat → Option XR)
def xDrawP1 (ops : Array Oper) (kd : List KdP) (wr : List Nat) (al : List Al) (s : XS) : Option XS :=
  bif flowOk ops && fitB Θ ops kd wr al then match clrA al s.sl with
    | sl0 => match xDrP Θ call ops al ops.toList kd ⟨sl0, s.o, s.nk⟩ with
      | none => none
      | some (vs, phs, sl) => match (s.o, s.nk) :: phs with
        | L => bif xChkP Θ call ops al L ops.toList kd vs sl0 0 then match L[wr.length]? with
            | none => none
            | some (o, nk) => bif Nat.beq wr.length phs.length then some ⟨sl, o, nk⟩ else none
          else none
  else none
def xDrawP (ops : Array Oper) (s : XS) : Option XS :=
  match ops.toList with
  | l => match ancs l l.length with
    | an => match wrGo l 0 with
      | ws => match pendL l an ws with
        | pn => match ws.filter fun i => !pn.contains i with
          | wr => match mkAl Θ l an wr pn with
            | al => xDrawP1 Θ call ops (kdP an wr al l 0 0) wr al s
theorem xDrawP1_ok {P : Program} {n k0 : Nat} {Q : Exit → St → Prop} (hΘ : TabOk P Θ) (hm : P.follows .mixedOrders = true) (hc : CallOk P call) {id : Nat} {ops : Array Oper} {kd : List KdP} {wr : List Nat} {al : List Al} {s s' : XS} (hd : (ops.toList.all fun o => dstOk n o.dst) = true) (h : xDrawP1 Θ call ops kd wr al s = some s') (hQ : Q .normal s'.st) :
    WP P n k0 (.region id ops true) s.st Q := by
  unfold xDrawP1 at h
  cases hb : flowOk ops && fitB Θ ops kd wr al with
  | false => rw [hb] at h; cases h
  | true =>
    rw [hb] at h
    simp only [cond_true] at h
    simp only [Bool.and_eq_true] at hb
    have fit := fitB_ok hb.2
    split at h
    · cases h
    · rename_i vs phs sl hx
      cases hk : xChkP Θ call ops al ((s.o, s.nk) :: phs) ops.toList kd vs (clrA al s.sl) 0 with
      | false => rw [hk] at h; cases h
      | true =>
        rw [hk] at h
        simp only [cond_true] at h
        split at h
        · cases h
        · rename_i o nk hL
          cases he : Nat.beq wr.length phs.length with
          | false => rw [he] at h; cases h
          | true =>
            rw [he] at h
            simp only [cond_true, Option.some.injEq] at h
            subst h
            have hlen := Nat.eq_of_beq_eq_true he
            obtain ⟨l1, l2⟩ := xDrP_len _ _ _ _ _ _ hx
            have hpl : (patchV ((s.o, s.nk) :: phs) kd vs).length = ops.size := by rw [patch_len _ _ l2, fit.kl]
            obtain ⟨k1, k2⟩ := xDrP_ok (P := P) (sl0 := fun u => ((clrA al s.sl).get u).getD .any) hc fit hb.1 hpl (by simp; omega) (fun i j k v h1 h2 => patch_a _ _ _ _ _ _ h1 h2) ops.toList kd ⟨clrA al s.sl, s.o, s.nk⟩ vs phs [] 0 0 rfl rfl hx rfl rfl hk rfl (fun u => .inl rfl)
            have hw : WP P n k0 (.region id ops true) ⟨fun u => ((clrA al s.sl).get u).getD .any, (phx ((s.o, s.nk) :: phs) 0).1, (phx ((s.o, s.nk) :: phs) 0).2⟩ Q := by
              refine WP.drawnP (P := P) (Θ := Θ) (n := n) (k0 := k0) (Q := Q) hΘ hm (id := id) (ops := ops) fit (phx ((s.o, s.nk) :: phs)) (patchV ((s.o, s.nk) :: phs) kd vs) hd hb.1 hpl (fun b hb => by simp only [clrA_al al s.sl b hb]; rfl) (fun i o v k ho hv hk => k1 i o v k (Nat.zero_le _) ho hv hk) ?_
              have e : slAt (fun u => ((clrA al s.sl).get u).getD .any) ((ops.toList.map (·.dst)).zip (patchV ((s.o, s.nk) :: phs) kd vs)) = fun u => (sl.get u).getD .any := funext fun u => (k2 u).symm
              rw [e]
              simp only [phx, hL]
              exact hQ
            refine WP.of (fun E a w _ hr => ?_) hw
            obtain ⟨S, γ, hr⟩ := hr
            refine ⟨S, γ, hr.sto, hr.tr, fun u => ?_, fun u => ?_, hr.df, hr.nn⟩
            · show SR w S γ _ (((clrA al s.sl).get u).getD .any) _
              rcases clrA_get al s.sl u with h | h
              · rw [h]; exact hr.sl u
              · rw [h]; exact .any _
            · show (((clrA al s.sl).get u).getD .any).lt _
              rcases clrA_get al s.sl u with h | h
              · rw [h]; exact hr.slt u
              · rw [h]; trivial
theorem xDrawP_ok {P : Program} {n k0 : Nat} {Q : Exit → St → Prop} (hΘ : TabOk P Θ) (hm : P.follows .mixedOrders = true) (hc : CallOk P call) {id : Nat} {ops : Array Oper} {s s' : XS} (hd : (ops.toList.all fun o => dstOk n o.dst) = true) (h : xDrawP Θ call ops s = some s') (hQ : Q .normal s'.st) :
    WP P n k0 (.region id ops true) s.st Q := xDrawP1_ok Θ call hΘ hm hc hd h hQ
end
end Go.Proofs.YtfgampmhjfffdaaGreat.Abs

/- Steps of drawn regions that write and hold allocs that no edge orders. -/
set_option linter.unusedVariables false
set_option linter.unusedSimpArgs false
namespace Go.Proofs.YtfgampmhjfffdaaGreat.Abs
open Go

section
variable {P : Program} {Θ : Tab} {n k0 : Nat} {Q : Exit → St → Prop}
end
section
variable {P : Program} {Θ : Tab} {ops : Array Oper} {K : St → Prop} {r : List Oper} {sl : Nat → SV} {d ty j lo m nk nk' i e : Nat} {o o' : Nat → Option AO} {op : Op} {pos : String} {af : Array Edge} {want c : Bool} {v : SV} {L : List Ob} {ks : List KdP} {al : List Al}
end
end Go.Proofs.YtfgampmhjfffdaaGreat.Abs

set_option linter.unusedVariables false
set_option linter.unusedSimpArgs false
set_option maxRecDepth 10000
namespace Go.Proofs.YtfgampmhjfffdaaGreat.Abs
open Go
/-- Alike, place by place. -/
def eqL {α : Type} (p : α → α → Bool) : List α → List α → Bool
  | [], [] => true
  | x :: xs, y :: ys => p x y && eqL p xs ys
  | _, _ => false
def eqUp {α : Type} (p : α → α → Bool) (xs ys : List α) (i : Nat) : Prop := ∀ (j : Nat) (h1 : j < xs.length) (h2 : j < ys.length), j < i → p xs[j] ys[j] = true
open Classical in
noncomputable def sameD1 (a b : Dlt) : Bool := decide (a = b)
theorem sameD1_iff {a b : Dlt} : sameD1 a b = true ↔ a = b := by simp [sameD1]
theorem eqL_iff {α : Type} {p : α → α → Bool} : ∀ {xs ys : List α}, eqL p xs ys = true ↔ xs.length = ys.length ∧ ∀ (j : Nat) (h1 : j < xs.length) (h2 : j < ys.length), p xs[j] ys[j] = true
  | [], [] => by simp [eqL]
  | x :: xs, y :: ys => by
    simp only [eqL, Bool.and_eq_true, eqL_iff (xs := xs) (ys := ys), List.length_cons, Nat.add_right_cancel_iff]
    constructor
    · rintro ⟨h1, h2, h3⟩
      refine ⟨h2, fun j a b => ?_⟩
      cases j with
      | zero => exact h1
      | succ j => exact h3 j (by simpa using a) (by simpa using b)
    · rintro ⟨h1, h2⟩
      exact ⟨h2 0 (by simp) (by simp), h1, fun j a b => h2 (j + 1) (by simpa using a) (by simpa using b)⟩
  | [], y :: ys => by simp [eqL]
  | x :: xs, [] => by simp [eqL]
theorem eqL_no {α : Type} {p : α → α → Bool} {xs ys : List α} (h : xs.length = ys.length → (∀ (j : Nat) (h1 : j < xs.length) (h2 : j < ys.length), p xs[j] ys[j] = true) → False) : D.bool false = .bool (eqL p xs ys) := by
  refine congrArg D.bool (Eq.symm ?_)
  rw [← Bool.not_eq_true, eqL_iff]
  exact fun e => h e.1 e.2
theorem eqL_yes {α : Type} {p : α → α → Bool} {xs ys : List α} (h1 : xs.length = ys.length) (h2 : ∀ (j : Nat) (h1 : j < xs.length) (h2 : j < ys.length), p xs[j] ys[j] = true) : D.bool true = .bool (eqL p xs ys) := congrArg D.bool (eqL_iff.2 ⟨h1, h2⟩).symm
theorem eqL_same {α : Type} {p : α → α → Bool} (hp : ∀ x y, p x y = true ↔ x = y) {xs ys : List α} : eqL p xs ys = true ↔ xs = ys := by
  rw [eqL_iff]
  constructor
  · rintro ⟨h1, h2⟩
    exact List.ext_getElem h1 fun j a b => (hp _ _).1 (h2 j a b)
  · rintro rfl
    exact ⟨rfl, fun j a b => (hp _ _).2 rfl⟩
theorem none_eq2 {a b : Val} (h1 : noneV a = true) (h2 : noneV b = true) : a = b := by
  cases a; cases b
  have k1 := of_decide_eq_true h1
  have k2 := of_decide_eq_true h2
  simp only [Val.kind, Val.int, Val.text, Val.items, Val.names] at k1 k2
  obtain ⟨rfl, rfl, rfl, rfl, rfl⟩ := k1
  obtain ⟨rfl, rfl, rfl, rfl, rfl⟩ := k2
  rfl
theorem same_l2 {a b : Val} (ha : mayV a = true ∨ noneV a = true) : ((noneV a && noneV b) || (mayV a && decide (compV a b = 0))) = sameV a b := by
  rw [Bool.eq_iff_iff, same_eq]
  constructor
  · intro h
    simp only [Bool.or_eq_true, Bool.and_eq_true, decide_eq_true_eq] at h
    rcases h with ⟨h1, h2⟩ | ⟨h1, h2⟩
    · exact none_eq2 h1 h2
    · unfold compV at h2
      rw [if_pos h1] at h2
      split at h2
      · rename_i hb; exact cmpV_eq a b h1 hb h2
      · cases h2
  · rintro rfl
    rcases ha with h | h
    · simp [h, compV, cmpV_refl]
    · simp [h]
theorem may_id {e : Etr} (h : mayE e = true) : mayV e.id = true ∨ noneV e.id = true := by
  simp only [mayE, valuesE, Bool.and_eq_true] at h
  have h1 := h.2.1.1.1.1.1
  have h2 := h.2.1.1.2
  cases hk : hasI e.kind with
  | true => rw [hk] at h2; exact .inl (check_may (by simpa using h2))
  | false => rw [hk] at h1; exact .inr (by simpa using h1)
theorem may_doc {e : Etr} (h : mayE e = true) : mayV e.doc = true ∨ noneV e.doc = true := by
  simp only [mayE, valuesE, Bool.and_eq_true] at h
  have h1 := h.2.1.1.1.1.2
  have h2 := h.2.1.2
  cases hk : hasD e.kind with
  | true =>
    rw [hk] at h2
    have h3 : mayDocV e.doc e.id = true := by simpa using h2
    simp only [mayDocV, decide_eq_true_eq] at h3
    exact .inl (check_may h3.2.1)
  | false => rw [hk] at h1; exact .inr (by simpa using h1)

theorem fn112 : FnOk Tryz.prog 112 32 [6] (bodyOf Tryz.f112) := ⟨Tryz.f112, Tryz.func112, by kernel_rfl, by decide, by kernel_rfl, by kernel_rfl⟩
theorem s112 (xs ys : List Val) (g : FuncId) (p : Val → Val → Bool) (hclo : ∀ x ∈ xs, ∀ y ∈ ys, PSpec Tryz.prog g [.d (encV x), .d (encV y)] (.d (.bool (p x y)))) : PSpec Tryz.prog 112 [.d (.sl 5 (encVs xs)), .d (.sl 5 (encVs ys)), .clo g [] []] (.d (.bool (eqL p xs ys))) := by
 refine PSpec.bd fun hbd => ?_
 have hx : xs.length ≤ 9223372036854775807 := by simpa [encVs_length] using hbd.1.1
 refine PSpec.of fn112 (by simp) fun o nk => ?_
 refine wr ?_
 refine ua ?_
 refine u_nil ?_
 refine WP.seq fun K2 hK2 => ?_
 refine wr ?_
 refine um ?_
 refine un th22 ?_
 refine um ?_
 refine un th22 ?_
 refine ub ?_
 refine u_nil ?_
 refine wc (fun hc4 => ?_) (fun hc4 => ?_) <;> try simp only [Q0, Q1, Q2, Q3, Q4, Q5, Q6, Q7, Q8, ge_iff_le, gt_iff_lt] at hc4
 ·
  refine wr ?_
  refine ua ?_
  refine u_nil ?_
  refine WP.ret ?_
  refine ret_ok rfl ?_ (by omega) (fun _ _ => rfl)
  -- ret 1
  refine eqL_no fun h1 _ => ?_
  have hq := hc4
  simp [encVs_length] at hq
  omega
 ·
  have hl : xs.length = ys.length := by have := hc4; simp [encVs_length] at this; omega
  refine WP.skip ?_
  refine hK2 _ ?_
  refine WP.seq fun K6 hK6 => ?_
  refine wr ?_
  refine um ?_
  refine un th22 ?_
  refine um ?_
  refine u_nil ?_
  refine WP.block ?_
  refine WP.loopL (ι := Nat × (Nat → Option AO) × Nat) (fun ⟨i, o2, nk2⟩ => ⟨al [(1, .d (.sl 5 (encVs ys))), (2, .clo g [] []), (15, .d (.sl 5 (encVs xs))), (16, .d (.int .i64 (encVs xs).length)), (17, .d (.int .i64 i))], o2, nk2⟩) (fun ⟨i, o2, nk2⟩ => i ≤ xs.length ∧ nk ≤ nk2 ∧ eqUp p xs ys i ∧ ∀ t, t < nk → o2 t = o t) (fun ⟨i, o2, nk2⟩ => xs.length - i) (fun ⟨i, o2, nk2⟩ hA => ?_) ⟨0, o, nk⟩ ?_ ?_
  ·
   obtain ⟨hle, hnk, hin, hfr⟩ := hA
   refine wr ?_
   refine ub ?_
   refine u_nil ?_
   refine WP.seq fun K9 hK9 => ?_
   refine wc (fun hc10 => ?_) (fun hc10 => ?_) <;> try simp only [Q0, Q1, Q2, Q3, Q4, Q5, Q6, Q7, Q8, ge_iff_le, gt_iff_lt] at hc10
   ·
    have hil : i < xs.length := by have := hc10; (try simp [encVs_length] at this); omega
    have hil2 : i < ys.length := by omega
    refine WP.skip ?_
    refine hK9 _ ?_
    refine WP.seq fun K11 hK11 => ?_
    refine WP.block ?_
    refine wr ?_
    refine um ?_
    first | refine u_step (o_ia_map rfl rfl th22 rfl th25 rfl (by omega) ?_) | refine u_step (o_ia_vs rfl rfl th22 rfl th25 rfl (by omega) ?_)
    refine uL th25 ?_
    refine u_step (g_alloc th25 rfl fun o13 hb13 hk13 => ?_)
    refine ua ?_
    refine u_step0 (g_sta rfl (congrArg SV.d (encV_eq _)) th25 rfl hb13 (by simp [valCells]) fun o14 hb14 hk14 => ?_)
    refine u_nil ?_
    refine wr ?_
    refine um ?_
    refine um ?_
    first | refine u_step (o_ia_map rfl rfl th22 rfl th25 rfl (by omega) ?_) | refine u_step (o_ia_vs rfl rfl th22 rfl th25 rfl (by omega) ?_)
    refine uL th25 ?_
    refine u_step (g_alloc th25 rfl fun o16 hb16 hk16 => ?_)
    have hb14_16 := (hk16 _ (by omega)).trans hb14
    refine u_step0 (g_sta rfl (congrArg SV.d (encV_eq _)) th25 rfl hb16 (by simp [valCells]) fun o17 hb17 hk17 => ?_)
    have hb14_17 := (hk17 _ (by omega)).trans hb14_16
    refine u_nil ?_
    refine wr ?_
    refine u_step (o_moveV (v := .clo _ _ _) rfl ?_)
    refine ug th25 hb14_17 ?_
    refine ug th25 hb17 ?_
    refine u_step (o_pclo rfl (pvv (v := xs[i]) (w := ys[i]) (hclo _ (List.getElem_mem _) _ (List.getElem_mem _))) rfl ?_)
    refine uN ?_
    refine u_nil ?_
    refine wc (fun hc19 => ?_) (fun hc19 => ?_) <;> try simp only [Q0, Q1, Q2, Q3, Q4, Q5, Q6, Q7, Q8, ge_iff_le, gt_iff_lt] at hc19
    ·
     refine wr ?_
     refine ua ?_
     refine u_nil ?_
     refine WP.ret ?_
     refine ret_ok rfl ?_ (by omega) (fun t ht => (hk17 t (by omega)).trans ((hk16 t (by omega)).trans ((hk14 t (by omega)).trans ((hk13 t (by omega)).trans ((hfr t (by omega)))))))
     -- ret 2
     refine eqL_no fun _ h2 => ?_
     have hq := hc19
     rw [h2 i hil hil2] at hq
     cases hq
    ·
     refine WP.skip ?_
     refine hK11 _ ?_
     refine WP.reg tabOk rfl ?_
     refine ub ?_
     refine um ?_
     refine u_nil ?_
     -- back
     refine ⟨⟨i + 1, o17, ((nk2 + 1) + 1)⟩, ⟨by omega, by omega, ?_, (fun t ht => (hk17 t (by omega)).trans ((hk16 t (by omega)).trans ((hk14 t (by omega)).trans ((hk13 t (by omega)).trans ((hfr t (by omega)))))))⟩, by simp only; omega, ?_⟩
     · unfold eqUp; intro j hj hk h1
       by_cases h2 : j = i
       · subst h2; simpa using hc19
       · exact hin j hj hk (by omega)
     · refine Le.al ?_
       simp only [List.forall_mem_cons]
       exact ⟨rfl, rfl, rfl, rfl, cnt (by omega), by simp⟩
   ·
    refine WP.exit ?_
    refine hK6 _ ?_
    refine wr ?_
    refine ua ?_
    refine u_nil ?_
    refine WP.ret ?_
    refine ret_ok rfl ?_ (by omega) (fun t ht => (hfr t (by omega)))
    -- ret 3
    exact eqL_yes hl fun j h1 h2 => hin j h1 h2 (by omega)
  ·
   exact ⟨by omega, by omega, fun _ _ _ h => absurd h (Nat.not_lt_zero _), (fun _ _ => rfl)⟩
  ·
   refine Le.al ?_
   simp only [List.forall_mem_cons]
   exact ⟨rfl, rfl, rfl, rfl, rfl, by simp⟩

theorem fn57 : FnOk Tryz.prog 57 32 [6] (bodyOf Tryz.f57) := ⟨Tryz.f57, Tryz.func57, by kernel_rfl, by decide, by kernel_rfl, by kernel_rfl⟩
theorem s57 (xs ys : List Dlt) (g : FuncId) (p : Dlt → Dlt → Bool) (hclo : ∀ x ∈ xs, ∀ y ∈ ys, PSpec Tryz.prog g [.d (encD x), .d (encD y)] (.d (.bool (p x y)))) : PSpec Tryz.prog 57 [.d (.sl 8 (xs.map encD)), .d (.sl 8 (ys.map encD)), .clo g [] []] (.d (.bool (eqL p xs ys))) := by
 refine PSpec.bd fun hbd => ?_
 have hx : xs.length ≤ 9223372036854775807 := by simpa [encVs_length] using hbd.1.1
 refine PSpec.of fn57 (by simp) fun o nk => ?_
 refine wr ?_
 refine ua ?_
 refine u_nil ?_
 refine WP.seq fun K2 hK2 => ?_
 refine wr ?_
 refine um ?_
 refine un th26 ?_
 refine um ?_
 refine un th26 ?_
 refine ub ?_
 refine u_nil ?_
 refine wc (fun hc4 => ?_) (fun hc4 => ?_) <;> try simp only [Q0, Q1, Q2, Q3, Q4, Q5, Q6, Q7, Q8, ge_iff_le, gt_iff_lt] at hc4
 ·
  refine wr ?_
  refine ua ?_
  refine u_nil ?_
  refine WP.ret ?_
  refine ret_ok rfl ?_ (by omega) (fun _ _ => rfl)
  -- ret 1
  refine eqL_no fun h1 _ => ?_
  have hq := hc4
  simp [encVs_length] at hq
  omega
 ·
  have hl : xs.length = ys.length := by have := hc4; simp [encVs_length] at this; omega
  refine WP.skip ?_
  refine hK2 _ ?_
  refine WP.seq fun K6 hK6 => ?_
  refine wr ?_
  refine um ?_
  refine un th26 ?_
  refine um ?_
  refine u_nil ?_
  refine WP.block ?_
  refine WP.loopL (ι := Nat × (Nat → Option AO) × Nat) (fun ⟨i, o2, nk2⟩ => ⟨al [(1, .d (.sl 8 (ys.map encD))), (2, .clo g [] []), (15, .d (.sl 8 (xs.map encD))), (16, .d (.int .i64 (xs.map encD).length)), (17, .d (.int .i64 i))], o2, nk2⟩) (fun ⟨i, o2, nk2⟩ => i ≤ xs.length ∧ nk ≤ nk2 ∧ eqUp p xs ys i ∧ ∀ t, t < nk → o2 t = o t) (fun ⟨i, o2, nk2⟩ => xs.length - i) (fun ⟨i, o2, nk2⟩ hA => ?_) ⟨0, o, nk⟩ ?_ ?_
  ·
   obtain ⟨hle, hnk, hin, hfr⟩ := hA
   refine wr ?_
   refine ub ?_
   refine u_nil ?_
   refine WP.seq fun K9 hK9 => ?_
   refine wc (fun hc10 => ?_) (fun hc10 => ?_) <;> try simp only [Q0, Q1, Q2, Q3, Q4, Q5, Q6, Q7, Q8, ge_iff_le, gt_iff_lt] at hc10
   ·
    have hil : i < xs.length := by have := hc10; (try simp [encVs_length] at this); omega
    have hil2 : i < ys.length := by omega
    refine WP.skip ?_
    refine hK9 _ ?_
    refine WP.seq fun K11 hK11 => ?_
    refine WP.block ?_
    refine wr ?_
    refine um ?_
    first | refine u_step (o_ia_map rfl rfl th26 rfl th53 rfl (by omega) ?_) | refine u_step (o_ia_vs rfl rfl th26 rfl th53 rfl (by omega) ?_)
    refine uL th53 ?_
    refine u_step (g_alloc th53 rfl fun o13 hb13 hk13 => ?_)
    refine ua ?_
    refine u_step0 (g_sta rfl rfl th53 rfl hb13 (by simp [valCells]) fun o14 hb14 hk14 => ?_)
    refine u_nil ?_
    refine wr ?_
    refine um ?_
    refine um ?_
    first | refine u_step (o_ia_map rfl rfl th26 rfl th53 rfl (by omega) ?_) | refine u_step (o_ia_vs rfl rfl th26 rfl th53 rfl (by omega) ?_)
    refine uL th53 ?_
    refine u_step (g_alloc th53 rfl fun o16 hb16 hk16 => ?_)
    have hb14_16 := (hk16 _ (by omega)).trans hb14
    refine u_step0 (g_sta rfl rfl th53 rfl hb16 (by simp [valCells]) fun o17 hb17 hk17 => ?_)
    have hb14_17 := (hk17 _ (by omega)).trans hb14_16
    refine u_nil ?_
    refine wr ?_
    refine u_step (o_moveV (v := .clo _ _ _) rfl ?_)
    refine ug th53 hb14_17 ?_
    refine ug th53 hb17 ?_
    refine u_step (o_pclo rfl (hclo _ (List.getElem_mem _) _ (List.getElem_mem _)) rfl ?_)
    refine uN ?_
    refine u_nil ?_
    refine wc (fun hc19 => ?_) (fun hc19 => ?_) <;> try simp only [Q0, Q1, Q2, Q3, Q4, Q5, Q6, Q7, Q8, ge_iff_le, gt_iff_lt] at hc19
    ·
     refine wr ?_
     refine ua ?_
     refine u_nil ?_
     refine WP.ret ?_
     refine ret_ok rfl ?_ (by omega) (fun t ht => (hk17 t (by omega)).trans ((hk16 t (by omega)).trans ((hk14 t (by omega)).trans ((hk13 t (by omega)).trans ((hfr t (by omega)))))))
     -- ret 2
     refine eqL_no fun _ h2 => ?_
     have hq := hc19
     rw [h2 i hil hil2] at hq
     cases hq
    ·
     refine WP.skip ?_
     refine hK11 _ ?_
     refine WP.reg tabOk rfl ?_
     refine ub ?_
     refine um ?_
     refine u_nil ?_
     -- back
     refine ⟨⟨i + 1, o17, ((nk2 + 1) + 1)⟩, ⟨by omega, by omega, ?_, (fun t ht => (hk17 t (by omega)).trans ((hk16 t (by omega)).trans ((hk14 t (by omega)).trans ((hk13 t (by omega)).trans ((hfr t (by omega)))))))⟩, by simp only; omega, ?_⟩
     · unfold eqUp; intro j hj hk h1
       by_cases h2 : j = i
       · subst h2; simpa using hc19
       · exact hin j hj hk (by omega)
     · refine Le.al ?_
       simp only [List.forall_mem_cons]
       exact ⟨rfl, rfl, rfl, rfl, cnt (by omega), by simp⟩
   ·
    refine WP.exit ?_
    refine hK6 _ ?_
    refine wr ?_
    refine ua ?_
    refine u_nil ?_
    refine WP.ret ?_
    refine ret_ok rfl ?_ (by omega) (fun t ht => (hfr t (by omega)))
    -- ret 3
    exact eqL_yes hl fun j h1 h2 => hin j h1 h2 (by omega)
  ·
   exact ⟨by omega, by omega, fun _ _ _ h => absurd h (Nat.not_lt_zero _), (fun _ _ => rfl)⟩
  ·
   refine Le.al ?_
   simp only [List.forall_mem_cons]
   exact ⟨rfl, rfl, rfl, rfl, rfl, by simp⟩

theorem fn89 : FnOk Tryz.prog 89 38 [4] (bodyOf Tryz.f89) := ⟨Tryz.f89, Tryz.func89, by kernel_rfl, by decide, by kernel_rfl, by kernel_rfl⟩
theorem s89A (m : Nat) : ∀ (v w : Val), SizeOf.sizeOf v < m → PSpec Tryz.prog 89 [.d (encV v), .d (encV w)] (.d (.bool (sameV v w))) := by
 induction m with
 | zero => intros; omega
 | succ m ih =>
  rintro ⟨kd, it, tx, xs, ns⟩ ⟨kd2, it2, tx2, ys, ms⟩ hv
  refine PSpec.of fn89 (by simp) fun o nk => ?_
  refine wr ?_
  refine u_step (g_box rfl fun o2 hb2 hk2 => ?_)
  refine u_step (g_box rfl fun o3 hb3 hk3 => ?_)
  have hb2_3 := (hk3 _ (by omega)).trans hb2
  refine ua ?_
  refine u_nil ?_
  refine wr ?_
  refine uf th25 th3 hb2_3 ?_
  refine ul th3 hb2_3 ?_
  refine uf th25 th3 hb3 ?_
  refine ul th3 hb3 ?_
  refine ub ?_
  refine um ?_
  apply gT
  · rfl
  · intro hg
    exact pf th25 th3 hb2_3
  apply gT
  · rfl
  · intro hg; try simp only [hg, ct]; try simp only [hg, ct, Bt]
    exact pl th3 hb2_3
  apply gT
  · rfl
  · intro hg
    exact pf th25 th3 hb3
  apply gT
  · rfl
  · intro hg; try simp only [hg, ct]; try simp only [hg, ct, Bt]
    exact pl th3 hb3
  apply gT
  · rfl
  · intro hg; try simp only [hg, ct]; try simp only [hg, ct, Bt]
    exact pb
  refine uA ?_
  refine um ?_
  apply gT
  · rfl
  · intro hg
    exact pf th25 th9 hb2_3
  apply gT
  · rfl
  · intro hg; try simp only [hg, ct]; try simp only [hg, ct, Bt]
    exact pl th9 hb2_3
  apply gT
  · rfl
  · intro hg
    exact pf th25 th9 hb3
  apply gT
  · rfl
  · intro hg; try simp only [hg, ct]; try simp only [hg, ct, Bt]
    exact pl th9 hb3
  apply gT
  · rfl
  · intro hg; try simp only [hg, ct]; try simp only [hg, ct, Bt]
    exact ps
  refine uA ?_
  refine um ?_
  apply gT
  · rfl
  · intro hg
    exact pf th25 th23 hb2_3
  apply gT
  · rfl
  · intro hg; try simp only [hg, ct]; try simp only [hg, ct, Bt]
    exact pl th23 hb2_3
  apply gT
  · rfl
  · intro hg
    exact pf th25 th23 hb3
  apply gT
  · rfl
  · intro hg; try simp only [hg, ct]; try simp only [hg, ct, Bt]
    exact pl th23 hb3
  apply gT
  · rfl
  · intro hg; try simp only [hg, ct]; try simp only [hg, ct, Bt]
    refine o_pcall (s88 ns ms) rfl ⟨rfl, rfl, rfl⟩
  refine uA ?_
  refine um ?_
  apply gT
  · rfl
  · intro hg
    exact pf th25 th22 hb2_3
  apply gT
  · rfl
  · intro hg; try simp only [hg, ct]; try simp only [hg, ct, Bt]
    exact pl th22 hb2_3
  apply gT
  · rfl
  · intro hg
    exact pf th25 th22 hb3
  apply gT
  · rfl
  · intro hg; try simp only [hg, ct]; try simp only [hg, ct, Bt]
    exact pl th22 hb3
  apply gT
  · rfl
  · intro hg; try simp only [hg, ct]; try simp only [hg, ct, Bt]
    refine o_pcall (s112 xs ys 89 sameV (fun x hx y hy => by obtain ⟨j, hj, rfl⟩ := List.getElem_of_mem hx; exact ih _ _ (by exact items_lt' hj hv))) rfl ⟨rfl, rfl, rfl⟩
  refine uA ?_
  refine ua ?_
  refine u_nil ?_
  refine WP.ret ?_
  refine ret_ok rfl ?_ (by omega) (fun t ht => (hk3 t (by omega)).trans ((hk2 t (by omega))))
  -- ret 1
  refine congrArg D.bool ?_
  rw [Bool.eq_iff_iff, same_iff]
  simp only [Bool.and_eq_true, beq_iff_eq, decide_eq_true_eq, eqL_same (fun x y => same_eq)]
  grind
theorem s89 (v w : Val) : PSpec Tryz.prog 89 [.d (encV v), .d (encV w)] (.d (.bool (sameV v w))) := s89A _ v w (Nat.lt_succ_self _)

theorem fn58 : FnOk Tryz.prog 58 31 [4] (bodyOf Tryz.f58) := ⟨Tryz.f58, Tryz.func58, by kernel_rfl, by decide, by kernel_rfl, by kernel_rfl⟩
theorem s58 (a b : Dlt) : PSpec Tryz.prog 58 [.d (encD a), .d (encD b)] (.d (.bool (sameD1 a b))) := by
 refine PSpec.of fn58 (by simp) fun o nk => ?_
 refine wr ?_
 refine u_step (g_box rfl fun o2 hb2 hk2 => ?_)
 refine u_step (g_box rfl fun o3 hb3 hk3 => ?_)
 have hb2_3 := (hk3 _ (by omega)).trans hb2
 refine ua ?_
 refine u_nil ?_
 refine wr ?_
 refine uf th53 th3 hb2_3 ?_
 refine ul th3 hb2_3 ?_
 refine uf th53 th3 hb3 ?_
 refine ul th3 hb3 ?_
 refine ub ?_
 refine um ?_
 apply gT
 · rfl
 · intro hg
   exact pf th53 th3 hb2_3
 apply gT
 · rfl
 · intro hg; try simp only [hg, ct]; try simp only [hg, ct, Bt]
   exact pl th3 hb2_3
 apply gT
 · rfl
 · intro hg
   exact pf th53 th3 hb3
 apply gT
 · rfl
 · intro hg; try simp only [hg, ct]; try simp only [hg, ct, Bt]
   exact pl th3 hb3
 apply gT
 · rfl
 · intro hg; try simp only [hg, ct]; try simp only [hg, ct, Bt]
   exact pb
 refine uA ?_
 refine um ?_
 apply gT
 · rfl
 · intro hg
   exact pf th53 th23 hb2_3
 apply gT
 · rfl
 · intro hg; try simp only [hg, ct]; try simp only [hg, ct, Bt]
   exact pl th23 hb2_3
 apply gT
 · rfl
 · intro hg
   exact pf th53 th23 hb3
 apply gT
 · rfl
 · intro hg; try simp only [hg, ct]; try simp only [hg, ct, Bt]
   exact pl th23 hb3
 apply gT
 · rfl
 · intro hg; try simp only [hg, ct]; try simp only [hg, ct, Bt]
   refine o_pcall (s88 a.path b.path) rfl ⟨rfl, rfl, rfl⟩
 refine uA ?_
 refine um ?_
 apply gT
 · rfl
 · intro hg
   exact pf th53 th25 hb2_3
 apply gT
 · rfl
 · intro hg; try simp only [hg, ct]; try simp only [hg, ct, Bt]
   exact pg th25 hb2_3
 apply gT
 · rfl
 · intro hg
   exact pf th53 th25 hb3
 apply gT
 · rfl
 · intro hg; try simp only [hg, ct]; try simp only [hg, ct, Bt]
   exact pg th25 hb3
 apply gT
 · rfl
 · intro hg; try simp only [hg, ct]; try simp only [hg, ct, Bt]
   refine o_pcall (pvv (s89 a.value b.value)) rfl ⟨rfl, rfl, rfl⟩
 refine uA ?_
 refine ua ?_
 refine u_nil ?_
 refine WP.ret ?_
 refine ret_ok rfl ?_ (by omega) (fun t ht => (hk3 t (by omega)).trans ((hk2 t (by omega))))
 -- ret 1
 refine congrArg D.bool ?_
 rw [Bool.eq_iff_iff, sameD1_iff]
 simp only [Bool.and_eq_true, beq_iff_eq, decide_eq_true_eq, same_eq]
 cases a; cases b; simp only [Dlt.mk.injEq]
 grind

theorem fn26 : FnOk Tryz.prog 26 8 [4] (bodyOf Tryz.f26) := ⟨Tryz.f26, Tryz.func26, by kernel_rfl, by decide, by kernel_rfl, by kernel_rfl⟩
theorem s26 (a b : List Dlt) : PSpec Tryz.prog 26 [.d (.sl 8 (a.map encD)), .d (.sl 8 (b.map encD))] (.d (.bool (sameDs a b))) := by
 refine PSpec.of fn26 (by simp) fun o nk => ?_
 refine wr ?_
 refine ua ?_
 refine u_nil ?_
 refine wr ?_
 refine um ?_
 refine um ?_
 refine u_step (o_pcall (s57 a b 58 sameD1 (fun x _ y _ => s58 x y)) rfl ?_)
 refine ua ?_
 refine u_nil ?_
 refine WP.ret ?_
 refine ret_ok rfl ?_ (by omega) (fun _ _ => rfl)
 -- ret 1
 refine congrArg D.bool ?_
 rw [Bool.eq_iff_iff, sameDs_iff, eqL_same (fun x y => sameD1_iff)]

theorem fn25 : FnOk Tryz.prog 25 20 [4] (bodyOf Tryz.f25) := ⟨Tryz.f25, Tryz.func25, by kernel_rfl, by decide, by kernel_rfl, by kernel_rfl⟩
theorem s25 (a b : Val) (ha : mayV a = true ∨ noneV a = true) (sa : szV a ≤ 1099511627776) (sb : szV b ≤ 1099511627776) : PSpec Tryz.prog 25 [.d (encV a), .d (encV b)] (.d (.bool (sameV a b))) := by
 obtain ⟨kd, it, tx, xs, ns⟩ := a
 obtain ⟨kd2, it2, tx2, ys, ms⟩ := b
 refine PSpec.of fn25 (by simp) fun o nk => ?_
 refine wr ?_
 refine u_step (g_box rfl fun o2 hb2 hk2 => ?_)
 refine u_step (g_box rfl fun o3 hb3 hk3 => ?_)
 have hb2_3 := (hk3 _ (by omega)).trans hb2
 refine ua ?_
 refine u_nil ?_
 refine wr ?_
 refine ug th25 hb2_3 ?_
 refine u_step (o_pcall (pv (v := .mk kd it tx xs ns) (s54 _ sa)) rfl ?_)
 refine um ?_
 apply gT
 · rfl
 · intro hg
   exact pg th25 hb3
 apply gT
 · rfl
 · intro hg; try simp only [hg, ct]; try simp only [hg, ct, Bt]
   refine o_pcall (pv (v := .mk kd2 it2 tx2 ys ms) (s54 _ sb)) rfl ⟨rfl, rfl, rfl⟩
 refine uA ?_
 refine um ?_
 apply gF
 · rfl
 · intro hg
   exact pg th25 hb2_3
 apply gF
 · rfl
 · intro hg; try simp only [hg, ct]; try simp only [hg, ct, Bt]
   refine o_pcall (pv (v := .mk kd it tx xs ns) (s55 _)) rfl ⟨rfl, rfl, rfl⟩
 apply gF
 · rfl
 · intro hg; try simp only [hg, ct]; try simp only [hg, ct, Bt]
   exact pm
 apply u_guard
 · exact GC.ct _ _
 · intro hg
   exact pg th25 hb2_3
 apply u_guard
 · exact GC.ct _ _
 · intro hg
   exact pg th25 hb3
 apply u_guard
 · exact GC.ct _ _
 · intro hg; try simp only [hg, ct]; try simp only [hg, ct, Bt]
   refine o_pcall (pvv (v := .mk kd it tx xs ns) (w := .mk kd2 it2 tx2 ys ms) (s56 _ _)) rfl ⟨rfl, rfl, rfl⟩
 apply gF
 · rfl
 · intro hg; try simp only [hg, ct]; try simp only [hg, ct, Bt]
   exact pA
 refine uO ?_
 refine ua ?_
 refine u_nil ?_
 refine WP.ret ?_
 refine ret_ok rfl ?_ (by omega) (fun t ht => (hk3 t (by omega)).trans ((hk2 t (by omega))))
 -- ret 1
 refine congrArg D.bool ?_
 exact same_l2 ha

theorem fn7 : FnOk Tryz.prog 7 64 [4] (bodyOf Tryz.f7) := ⟨Tryz.f7, Tryz.func7, by kernel_rfl, by decide, by kernel_rfl, by kernel_rfl⟩
theorem s7 (a b : Etr) (oa : OkE a) (ob : OkE b) (ha : mayE a = true) : PSpec Tryz.prog 7 [.d (encE a), .d (encE b)] (.d (.bool (sameE a b))) := by
 refine PSpec.of fn7 (by simp) fun o nk => ?_
 refine wr ?_
 refine u_step (g_box rfl fun o2 hb2 hk2 => ?_)
 refine u_step (g_box rfl fun o3 hb3 hk3 => ?_)
 have hb2_3 := (hk3 _ (by omega)).trans hb2
 refine ua ?_
 refine u_nil ?_
 refine WP.seq fun K4 hK4 => ?_
 refine WP.block ?_
 refine wr ?_
 refine uf th28 th3 hb2_3 ?_
 refine ul th3 hb2_3 ?_
 refine uf th28 th3 hb3 ?_
 refine ul th3 hb3 ?_
 refine ub ?_
 refine um ?_
 apply gF
 · rfl
 · intro hg
   exact pf th28 th3 hb2_3
 apply gF
 · rfl
 · intro hg; try simp only [hg, ct]; try simp only [hg, ct, Bt]
   exact pl th3 hb2_3
 apply gF
 · rfl
 · intro hg
   exact pf th28 th3 hb3
 apply gF
 · rfl
 · intro hg; try simp only [hg, ct]; try simp only [hg, ct, Bt]
   exact pl th3 hb3
 apply gF
 · rfl
 · intro hg; try simp only [hg, ct]; try simp only [hg, ct, Bt]
   exact pb
 refine uO ?_
 refine um ?_
 apply gF
 · rfl
 · intro hg
   exact pf th28 th9 hb2_3
 apply gF
 · rfl
 · intro hg; try simp only [hg, ct]; try simp only [hg, ct, Bt]
   exact pl th9 hb2_3
 apply gF
 · rfl
 · intro hg
   exact pf th28 th9 hb3
 apply gF
 · rfl
 · intro hg; try simp only [hg, ct]; try simp only [hg, ct, Bt]
   exact pl th9 hb3
 apply gF
 · rfl
 · intro hg; try simp only [hg, ct]; try simp only [hg, ct, Bt]
   exact ps
 refine uO ?_
 refine um ?_
 apply gF
 · rfl
 · intro hg
   exact pf th28 th9 hb2_3
 apply gF
 · rfl
 · intro hg; try simp only [hg, ct]; try simp only [hg, ct, Bt]
   exact pl th9 hb2_3
 apply gF
 · rfl
 · intro hg
   exact pf th28 th9 hb3
 apply gF
 · rfl
 · intro hg; try simp only [hg, ct]; try simp only [hg, ct, Bt]
   exact pl th9 hb3
 apply gF
 · rfl
 · intro hg; try simp only [hg, ct]; try simp only [hg, ct, Bt]
   exact ps
 refine uO ?_
 refine ua ?_
 refine u_nil ?_
 refine wc (fun hc6 => ?_) (fun hc6 => ?_) <;> try simp only [Q0, Q1, Q2, Q3, Q4, Q5, Q6, Q7, Q8, ge_iff_le, gt_iff_lt] at hc6
 ·
  refine wr ?_
  refine ua ?_
  refine u_nil ?_
  refine WP.ret ?_
  refine ret_ok rfl ?_ (by omega) (fun t ht => (hk3 t (by omega)).trans ((hk2 t (by omega))))
  -- ret 1
  clear hK4
  refine congrArg D.bool ?_
  rw [Bool.eq_iff_iff, sameE_iff]
  try simp only [Bool.and_eq_true, beq_iff_eq, decide_eq_true_eq, sameDs_iff, same_eq]
  simp at hc6
  grind
 ·
  refine wr ?_
  refine uf th28 th3 hb2_3 ?_
  refine ul th3 hb2_3 ?_
  refine uf th28 th3 hb3 ?_
  refine ul th3 hb3 ?_
  refine ub ?_
  refine um ?_
  apply gF
  · rfl
  · intro hg
    exact pf th28 th3 hb2_3
  apply gF
  · rfl
  · intro hg; try simp only [hg, ct]; try simp only [hg, ct, Bt]
    exact pl th3 hb2_3
  apply gF
  · rfl
  · intro hg
    exact pf th28 th3 hb3
  apply gF
  · rfl
  · intro hg; try simp only [hg, ct]; try simp only [hg, ct, Bt]
    exact pl th3 hb3
  apply gF
  · rfl
  · intro hg; try simp only [hg, ct]; try simp only [hg, ct, Bt]
    exact pb
  refine uO ?_
  refine ua ?_
  refine u_nil ?_
  refine wc (fun hc9 => ?_) (fun hc9 => ?_) <;> try simp only [Q0, Q1, Q2, Q3, Q4, Q5, Q6, Q7, Q8, ge_iff_le, gt_iff_lt] at hc9
  ·
   refine wr ?_
   refine ua ?_
   refine u_nil ?_
   refine WP.ret ?_
   refine ret_ok rfl ?_ (by omega) (fun t ht => (hk3 t (by omega)).trans ((hk2 t (by omega))))
   -- ret 2
   clear hK4
   refine congrArg D.bool ?_
   rw [Bool.eq_iff_iff, sameE_iff]
   try simp only [Bool.and_eq_true, beq_iff_eq, decide_eq_true_eq, sameDs_iff, same_eq]
   simp at hc6 hc9
   grind
  ·
   refine WP.skip ?_
   refine hK4 _ ?_
   refine wr ?_
   refine uf th28 th25 hb2_3 ?_
   refine ug th25 hb2_3 ?_
   refine uf th28 th25 hb3 ?_
   refine ug th25 hb3 ?_
   refine u_step (o_pcall (pvv (s25 a.id b.id (may_id ha) oa.si ob.si)) rfl ?_)
   refine um ?_
   apply gT
   · rfl
   · intro hg
     exact pf th28 th25 hb2_3
   apply gT
   · rfl
   · intro hg; try simp only [hg, ct]; try simp only [hg, ct, Bt]
     exact pg th25 hb2_3
   apply gT
   · rfl
   · intro hg
     exact pf th28 th25 hb3
   apply gT
   · rfl
   · intro hg; try simp only [hg, ct]; try simp only [hg, ct, Bt]
     exact pg th25 hb3
   apply gT
   · rfl
   · intro hg; try simp only [hg, ct]; try simp only [hg, ct, Bt]
     refine o_pcall (pvv (s25 a.doc b.doc (may_doc ha) oa.sd ob.sd)) rfl ⟨rfl, rfl, rfl⟩
   refine uA ?_
   refine um ?_
   apply gT
   · rfl
   · intro hg
     exact pf th28 th26 hb2_3
   apply gT
   · rfl
   · intro hg; try simp only [hg, ct]; try simp only [hg, ct, Bt]
     exact pl th26 hb2_3
   apply gT
   · rfl
   · intro hg
     exact pf th28 th26 hb3
   apply gT
   · rfl
   · intro hg; try simp only [hg, ct]; try simp only [hg, ct, Bt]
     exact pl th26 hb3
   apply gT
   · rfl
   · intro hg; try simp only [hg, ct]; try simp only [hg, ct, Bt]
     refine o_pcall (s26 a.deltas b.deltas) rfl ⟨rfl, rfl, rfl⟩
   refine uA ?_
   refine ua ?_
   refine u_nil ?_
   refine WP.ret ?_
   refine ret_ok rfl ?_ (by omega) (fun t ht => (hk3 t (by omega)).trans ((hk2 t (by omega))))
   -- ret 3
   clear hK4
   refine congrArg D.bool ?_
   rw [Bool.eq_iff_iff, sameE_iff]
   try simp only [Bool.and_eq_true, beq_iff_eq, decide_eq_true_eq, sameDs_iff, same_eq]
   simp at hc6 hc9
   grind

end Go.Proofs.YtfgampmhjfffdaaGreat.Abs

/- The row's opening: what is read as data is held by values; its closing: what was read is there still. -/
set_option linter.unusedVariables false
set_option linter.unusedSimpArgs false
namespace Go.Proofs.YtfgampmhjfffdaaGreat.Abs
open Go
open Go.ChangeShapes Go.WideShapes Go.ChangeAt Go.RowKit Go.WideElems

def Sof (w : World) : Nat → Prop := fun k => k < w.heap.size
/-- Values, cell by cell. -/
def RdC (w : World) (xs : List D) (cs : List Value) : Prop := cs.length = xs.length ∧ ∀ (i : Nat) (x : D) (v : Value), xs[i]? = some x → cs[i]? = some v → Rd w (Sof w) x v
def D.cl : D → List D
  | .agg xs => xs
  | x => [x]
def D.ok1 : D → Prop
  | .agg xs => xs.all D.leaf = true
  | _ => True
theorem val_of {w : World} {x : D} {cs : List Value} (h : RdC w x.cl cs) (ho : x.ok1) : ∃ v : Value, v.cells.toList = cs ∧ Rd w (Sof w) x v := by
  obtain ⟨h1, h2⟩ := h
  by_cases hx : x.leaf = true
  · have hc : x.cl = [x] := by cases x <;> first | rfl | (simp [D.leaf] at hx)
    rw [hc] at h1 h2
    match cs, h1 with
    | [v], _ =>
      have hr := h2 0 x v rfl rfl
      exact ⟨v, by rw [hr.leaf_cells hx], hr⟩
  · cases x <;> simp [D.leaf] at hx
    rename_i xs
    exact ⟨.agg cs.toArray, by simp [Value.cells], .agg xs cs ho h1 h2⟩
theorem rdC_one {w : World} {x : D} {v : Value} (h : Rd w (Sof w) x v) : RdC w [x] [v] := by
  refine ⟨rfl, fun i y u h1 h2 => ?_⟩
  match i with
  | 0 => simp at h1 h2; subst h1; subst h2; exact h
  | i + 1 => simp at h1
theorem rdC_nil {w : World} {cs : List Value} {o : Nat} (h : cs.length = o) : RdC w [] (cs.drop o) := ⟨by simp [h], fun i x v h => by simp at h⟩
theorem rdC_cat {w : World} {xs ys : List D} {cs : List Value} {o n : Nat} (h1 : RdC w xs ((cs.drop o).take n)) (hn : xs.length = n) (h2 : RdC w ys (cs.drop (o + n))) : RdC w (xs ++ ys) (cs.drop o) := by
  obtain ⟨a1, a2⟩ := h1
  obtain ⟨b1, b2⟩ := h2
  have hl : n ≤ (cs.drop o).length := by simp at a1 ⊢; omega
  have he : cs.drop o = (cs.drop o).take n ++ cs.drop (o + n) := by rw [← List.drop_drop]; exact (List.take_append_drop n _).symm
  refine ⟨by simp at b1 hl ⊢; omega, fun i x v hx hv => ?_⟩
  rcases Nat.lt_or_ge i xs.length with h | h
  · rw [List.getElem?_append_left h] at hx
    exact a2 i x v hx (by rw [List.getElem?_take, if_pos (by omega)]; exact hv)
  · rw [List.getElem?_append_right h] at hx
    refine b2 (i - xs.length) x v hx ?_
    rw [List.getElem?_drop] at hv ⊢
    rw [show o + n + (i - xs.length) = o + i by omega]; exact hv

theorem list_of {α : Type} {Q : Nat → α → Prop} : ∀ n, (∀ i, i < n → ∃ a, Q i a) → ∃ l : List α, l.length = n ∧ ∀ i a, l[i]? = some a → Q i a
  | 0, _ => ⟨[], rfl, by simp⟩
  | n + 1, h => by
    obtain ⟨l, h1, h2⟩ := list_of n fun i hi => h i (by omega)
    obtain ⟨a, ha⟩ := h n (by omega)
    refine ⟨l ++ [a], by simp [h1], fun i b hb => ?_⟩
    rcases Nat.lt_or_ge i l.length with hi | hi
    · rw [List.getElem?_append_left hi] at hb; exact h2 i b hb
    · rw [List.getElem?_append_right hi] at hb
      have : i - l.length = 0 := by
        rcases Nat.eq_zero_or_pos (i - l.length) with h' | h'
        · exact h'
        · rw [List.getElem?_eq_none (by simp; omega)] at hb; cases hb
      rw [this] at hb
      simp at hb
      subst hb
      rw [show i = n by omega]; exact ha
theorem mapM_some {α β : Type} {f : α → Option β} : ∀ {l : List α} {r : List β}, l.mapM f = some r → r.length = l.length ∧ ∀ (i : Nat) (a : α), l[i]? = some a → f a = r[i]?
  | [], r, h => by
    simp at h; subst h; exact ⟨rfl, by simp⟩
  | a :: l, r, h => by
    rw [List.mapM_cons] at h
    simp only [Option.bind_eq_bind, Option.bind_eq_some_iff, Option.pure_def, Option.some.injEq] at h
    obtain ⟨b, hb, r', hr, rfl⟩ := h
    obtain ⟨h1, h2⟩ := mapM_some hr
    refine ⟨by simp [h1], fun i x hx => ?_⟩
    match i with
    | 0 => simp at hx; subst hx; simpa using hb
    | i + 1 => simpa using h2 i x (by simpa using hx)
theorem cells_some {w : World} {b n : Nat} {a : Addr} {cs : List Value} (h : w.cells? b a n = some cs) : cs.length = n ∧ ∀ j, j < n → w.cell? (a.add j) = cs[j]? := by
  unfold World.cells? at h
  split at h
  · obtain ⟨h1, h2⟩ := mapM_some h
    rw [List.length_range] at h1
    exact ⟨h1, fun j hj => h2 j j (by rw [List.getElem?_range hj])⟩
  · cases h

section
variable {H : Type} {enc : TypeId × Value → H} {P : Program} {w : World} {base fuel : Nat} {spare : Nat → Bool} {held : Bool} {t e : TypeId} {cs : List Value} {x : DataW H × List MemPlace}

/-- Elements and their data. -/
def All2 {α : Type} (A : α → DataW H → Prop) (l : List α) (es : List (DataW H)) : Prop := l.length = es.length ∧ ∀ (i : Nat) (a : α) (y : DataW H), l[i]? = some a → es[i]? = some y → A a y
def SlD {α : Type} (A : α → DataW H → Prop) (l : List α) (d : DataW H) : Prop := (d = .nil ∧ l = []) ∨ ∃ es sp, d = .slice es sp ∧ All2 A l es

theorem rd_slice {α : Type} {z : Nat} (encA : α → D) (A : α → DataW H → Prop) (hu : P.underlying t = some (.slice e)) (hz : P.cellsOf e = z) (hz0 : 0 < z) (hzA : ∀ a, (encA a).cl.length = z) (hok : ∀ a, (encA a).ok1)
    (h : DataW.trod enc P w base spare held fuel t cs = some x)
    (he : ∀ n cs x, n < fuel → DataW.trod enc P w base spare held n e cs = some x → ∃ a, RdC w (encA a).cl cs ∧ A a x.1) :
    ∃ l : List α, RdC w [.sl z (l.map encA)] cs ∧ SlD A l x.1 := by
  rcases DataW.trod_slice hu h with ⟨rfl, rfl⟩ | ⟨a, len, cap, elems, rest, n, hf, rfl, rfl, hb, hlc, hcm, hlen, hel, _⟩
  · exact ⟨[], rdC_one (.emp _ _ _ (by omega)), .inl ⟨rfl, rfl⟩⟩
  · rw [hz] at hel
    have key : ∀ i, i < len → ∃ p : α × Value, (∃ cs', w.cells? base (a.add (i * z)) z = some cs' ∧ p.2.cells.toList = cs') ∧ Rd w (Sof w) (encA p.1) p.2 ∧ ∀ y, elems[i]? = some y → A p.1 y.1 := by
      intro i hi
      have h1 := hel i hi
      rw [List.getElem?_eq_getElem (by omega)] at h1
      obtain ⟨cs', h2, h3⟩ := Option.bind_eq_some_iff.1 h1
      obtain ⟨b, h4, h5⟩ := he n cs' _ (by omega) h3
      obtain ⟨v, h6, h7⟩ := val_of h4 (hok b)
      refine ⟨(b, v), ⟨cs', h2, h6⟩, h7, fun y hy => ?_⟩
      rw [List.getElem?_eq_getElem (by omega)] at hy
      injection hy with hy
      rw [← hy]; exact h5
    obtain ⟨l, hl1, hl2⟩ := list_of len key
    refine ⟨l.map (·.1), ?_, .inr ⟨_, _, rfl, by simp [hl1, hlen], fun i b y hb' hy => ?_⟩⟩
    · refine rdC_one ?_
      rcases Nat.eq_zero_or_pos len with h0 | h0
      · have : l = [] := List.eq_nil_of_length_eq_zero (by omega)
        subst this
        subst h0
        exact .emp _ _ _ (by simpa [maxLen] using hcm)
      · have hS : Sof w a.block := by
          obtain ⟨p, ⟨cs', h1, _⟩, _⟩ := key 0 h0
          obtain ⟨h2, h3⟩ := cells_some h1
          have h4 := h3 0 hz0
          rw [List.getElem?_eq_getElem (by omega)] at h4
          have := World.block_lt_of_cell? w _ h4
          rwa [add_block, add_block] at this
        have hlm : ((l.map (·.1)).map encA).length = len := by simp [hl1]
        rw [← hlm]
        refine .sl z _ a cap (l.map (·.2)) (by omega) (by simpa [maxLen] using hcm) hS (by simp [hl1]) (fun i y v hy hv => ?_) (fun i v hv => ?_) (fun i j v u hv hu' => ?_)
        · rw [List.getElem?_map, List.getElem?_map] at hy
          rw [List.getElem?_map] at hv
          cases hp : l[i]? with
          | none => rw [hp] at hv; cases hv
          | some p =>
            rw [hp] at hy hv
            simp at hy hv
            subst hy; subst hv
            exact (hl2 i p hp).2.1
        · rw [List.getElem?_map] at hv
          obtain ⟨p, hp, rfl⟩ := Option.map_eq_some_iff.1 hv
          obtain ⟨⟨cs', h1, h2⟩, _, _⟩ := hl2 i p hp
          have := (cells_some h1).1
          rw [← h2] at this
          simpa using this
        · rw [List.getElem?_map] at hv
          obtain ⟨p, hp, rfl⟩ := Option.map_eq_some_iff.1 hv
          obtain ⟨⟨cs', h1, h2⟩, _, _⟩ := hl2 i p hp
          obtain ⟨h3, h4⟩ := cells_some h1
          have hj : j < p.2.cells.size := (Array.getElem?_eq_some_iff.1 hu').1
          have hjz : j < z := by
            rw [← h2] at h3
            simp at h3
            omega
          have h5 := h4 j hjz
          rw [Addr_add_add] at h5
          rw [h5, ← h2]
          simpa using hu'
    · rw [List.getElem?_map] at hb' hy
      obtain ⟨p, hp, rfl⟩ := Option.map_eq_some_iff.1 hb'
      obtain ⟨q, hq, rfl⟩ := Option.map_eq_some_iff.1 hy
      exact (hl2 i p hp).2.2 q hq

theorem rd_int {k : IntKind} (hu : P.underlying t = some (.int k)) (h : DataW.trod enc P w base spare held fuel t cs = some x) : ∃ n, RdC w [.int k n] cs ∧ x.1 = .lit (.int k n) ∧ (Lit.int k n).wf = true := by
  obtain ⟨n, rfl, rfl, hw⟩ := DataW.trod_int hu h
  exact ⟨n, rdC_one (.int _ _), rfl, hw⟩
theorem rd_str (hu : P.underlying t = some .string) (h : DataW.trod enc P w base spare held fuel t cs = some x) : ∃ s : List UInt8, RdC w [.str s] cs ∧ x.1 = .lit (.string s) := by
  obtain ⟨s, rfl, rfl, hs⟩ := DataW.trod_string hu h
  refine ⟨s.data.toList, rdC_one ?_, rfl⟩
  have he : (⟨s.data.toList.toArray⟩ : ByteArray) = s := by
    apply ByteArray.ext
    simp
  have := Rd.str (w := w) (S := Sof w) s.data.toList (by
    have hl : s.data.toList.length = s.size := by rw [Array.length_toList]; rfl
    unfold maxLen at hs; omega)
  rwa [he] at this
/-- A struct's fields. -/
theorem rd_struct {i : TI} {fs : List (Nat × Nat)} (hT : TOk P t i) (hk : i.k = .struct fs) (h : DataW.trod enc P w base spare held fuel t cs = some x) :
    ∃ (xs : List (DataW H × List MemPlace)) (n : Nat), n < fuel ∧ x.1 = .agg (xs.map (·.1)) ∧ cs.length = P.cellsOf t ∧ xs.length = fs.length ∧
      ∀ (i : Nat) (f : Nat × Nat), fs[i]? = some f → DataW.trod enc P w base spare held n f.2 ((cs.drop f.1).take (P.cellsOf f.2)) = xs[i]? := by
  obtain ⟨F, hF, rfl, _⟩ := hT.struct hk
  obtain ⟨xs, n, hf, hx, hl, hlen, hfs⟩ := DataW.trod_struct hF h
  refine ⟨xs, n, by omega, by rw [hx], hl, by simp [hlen], fun j f hj => ?_⟩
  rw [List.getElem?_map] at hj
  obtain ⟨g, hg, rfl⟩ := Option.map_eq_some_iff.1 hj
  exact hfs j g (by simpa using hg)
theorem wf_i64 {n : Int} (h : (Lit.int .i64 n).wf = true) : -9223372036854775808 ≤ n ∧ n ≤ 9223372036854775807 := bounds_i64 h
end

theorem rdv_struct {P : Program} {w W : World} {r : Reach} {base : Nat} {t : TypeId} {i : TI} {fs : List (Nat × Nat)} {x : D} {v : Value} (h : Value.okWide P W r base t v) (hT : TOk P t i) (hk : i.k = .struct fs) (hc : RdC w x.cl v.cells.toList) (hl : x = .agg x.cl) (ho : x.ok1) : Rd w (Sof w) x v := by
  obtain ⟨F, hF, _, _⟩ := hT.struct hk
  unfold Value.okWide at h
  rw [hF] at h
  obtain ⟨cs, rfl, _, _⟩ := h
  rw [hl] at hc ho ⊢
  have : cs = cs.toList.toArray := by simp
  rw [this]
  exact .agg _ _ ho (by simpa [Value.cells, D.cl] using hc.1) (fun j y u h1 h2 => hc.2 j y u (by simpa [D.cl] using h1) (by simpa [Value.cells] using h2))
/-! ### the close -/
section
variable {H : Type} {enc : TypeId × Value → H} {P : Program}
theorem post_of_below {f : Func} {s : ChangeSpec} {apart fresh handsOn again : Bool} {W W' : World} {args : Array Value} {v : Value} {ds gs : List (DataW H)} {before pa pv : List MemPlace}
    (hW : DataW.Whole enc P f.params.toList s.vars apart W args.toList ds gs before)
    (hres : ∀ (b : Nat) (sp : Nat → Bool) (hd : Bool), DataW.TrodAll enc P W' b sp hd f.resultTypes.toList (v.resultList f.resultTypes.size) (s.fn H (ds ++ gs)).results [])
    (hargs : ∀ sp : Nat → Bool, (∀ p ∈ before, sp p.block = true) → DataW.TrodAll enc P W' 0 sp true f.params.toList args.toList (s.fn H (ds ++ gs)).args pa)
    (hvars : ∀ sp : Nat → Bool, (∀ p ∈ before, sp p.block = true) → DataW.TrodVars enc P W' sp s.vars (s.fn H (ds ++ gs)).vars pv)
    (hps : before = pa ++ pv) (hb : Below W.heap.size W W')
    (hok : ∀ (j : Nat) (t : TypeId) (r : Value), f.resultTypes[j]? = some t → (v.resultList f.resultTypes.size)[j]? = some r → Value.okWide P W' .any 0 t r) :
    s.post enc P f apart fresh handsOn again W args v W' := by
  have hlt : ∀ p ∈ before, p.block < W.heap.size := fun p hp => hW.lt p hp
  have hold : ∀ p ∈ before, (fun b => decide (b < W.heap.size)) p.block = true := fun p hp => by simpa using hlt p hp
  refine ⟨ds, gs, before, [], pa, pv, hW, hres _ _ _, hargs _ hold, hvars _ hold, World.keptBut_mono (fun p hp => ⟨hp, ?_⟩) (hb.frame (· ∈ before)), fun _ => ?_⟩
  · rw [hps, List.mem_append] at hp
    exact Or.inr hp
  · obtain ⟨_, _, _, _, _, hz, hn⟩ := hW
    refine ⟨hok, _, _, ([] ++ pa) ++ pv, ⟨[] ++ pa, pv, trodAll_append (hargs _ (fun _ _ => rfl)) (hres _ _ _), hvars _ (fun _ _ => rfl), rfl, ?_, ?_⟩, ?_⟩
    · intro b off hp
      have hin : MemPlace.cell b off ∈ before := by rw [hps]; simpa using hp
      rw [hb.frozen (hlt _ hin)]
      exact hz b off hin
    · intro ha
      have := hn ha
      rw [hps] at this
      simpa using this
    · intro p hp _
      rw [hps]
      simpa using hp
theorem trodAll_stays (hl : laidOutB P = true) {W W' : World} (hb : Below W.heap.size W W') : ∀ {ts : List TypeId} {vs : List Value} {ds : List (DataW H)} {ps : List MemPlace} {sp : Nat → Bool}, (ts.all fun t => P.readableRec t && decide (t < P.types.size)) = true →
    DataW.TrodAll enc P W 0 (fun _ => true) true ts vs ds ps → (∀ p ∈ ps, sp p.block = true) → (∀ p ∈ ps, p.block < W.heap.size) → DataW.TrodAll enc P W' 0 sp true ts vs ds ps
  | [], vs, ds, ps, sp, _, h, _, _ => by
    obtain ⟨rfl, rfl, rfl⟩ := trodAll_nil h
    rfl
  | t :: ts, vs, ds, ps, sp, ht, h, hs, hlt => by
    obtain ⟨v, vs', d, ds', p, q, rfl, rfl, rfl, h1, h2⟩ := trodAll_cons h
    simp only [List.all_cons, Bool.and_eq_true, decide_eq_true_eq] at ht
    exact trodAll_cons_mk (Trod_stays hl ht.1.1 ht.1.2 h1 (fun x hx => hb.same (hlt x (by simp [hx]))) fun x hx => hs x (by simp [hx])) (trodAll_stays hl hb ht.2 h2 (fun x hx => hs x (by simp [hx])) fun x hx => hlt x (by simp [hx]))
/-- A law that answers yes, called. -/
theorem calls_of_spec {f : FuncId} {fn : Func} {W : World} {vs : List Value} {ds : List D} (hfn : P.funcs[f]? = some fn) (hbody : fn.body.isSome = true) (hname : (fn.name == "runtime.NumGoroutine") = false) (h : PSpec P f (ds.map .d) (.d (.bool true))) (hr : vs.length = ds.length ∧ ∀ (i : Nat) (x : D) (v : Value), ds[i]? = some x → vs[i]? = some v → Rd W (Sof W) x v) :
    Calls P f vs.toArray W fun e W' => e = .returned (.bool true) ∧ Below W.heap.size W W' := by
  have hsto : Sto W (Sof W) (fun _ => undef) (fun _ => none) 0 := ⟨fun k hk => hk, by simp, by simp, by simp, by simp, by simp, by simp⟩
  have hd := h (fun _ => none) 0 W (Sof W) (fun _ => undef) vs hsto (by simp [hr.1]) (fun i c v hc hv => by
    rw [List.getElem?_map] at hc
    obtain ⟨x, hx, rfl⟩ := Option.map_eq_some_iff.1 hc
    exact .d _ _ (hr.2 i x v hx hv)) (lts_of fun i c hc => by
      rw [List.getElem?_map] at hc
      obtain ⟨x, hx, rfl⟩ := Option.map_eq_some_iff.1 hc
      trivial)
  obtain ⟨b, hb⟩ := Option.isSome_iff_exists.1 hbody
  have hcf : (callFunc f vs.toArray).run P W = .ok (.enter f vs.toArray) W := by
    simp only [beq_eq_false_iff_ne, ne_eq] at hname
    simp [callFunc, hfn, hb, hname]
  unfold Does at hd
  rw [hcf] at hd
  refine hd.mono ?_
  rintro e W' ⟨v, rfl, r, o', nk', S', γ', ⟨rfl, rfl, rfl⟩, hs, ht, hsr, hl⟩
  refine ⟨?_, ht.os, ht.tape, ht.output, ht.size, fun k hk => ht.kept k hk ?_⟩
  · cases hsr with
    | d _ _ hrd => cases hrd; rfl
  · rintro ⟨t, y, hy, _⟩
    cases hy
end
end Go.Proofs.YtfgampmhjfffdaaGreat.Abs

set_option linter.unusedVariables false
set_option linter.unusedSimpArgs false
set_option maxRecDepth 10000
namespace Go.Proofs.YtfgampmhjfffdaaGreat.Abs
open Go
section
variable {H : Type} {enc : TypeId × Value → H} {w : World} {base fuel : Nat} {spare : Nat → Bool} {held : Bool} {cs : List Value} {x : DataW H × List MemPlace}
theorem cells_of {P : Program} {t : TypeId} {i : TI} (h : TOk P t i) : P.cellsOf t = i.sz := by
  have := h.s
  unfold Program.cellsOf
  cases hq : P.info? t with
  | none => rw [hq] at this; cases this
  | some q => rw [hq] at this; simp at this; simp [this.1]
def AStr (s : Str) (d : DataW H) : Prop := d = .lit (.string s)
def AVal (v : Val) (d : DataW H) : Prop := rngV v ∧ szV v ≤ Rows.uptoBulk d
def ADlt (v : Dlt) (d : DataW H) : Prop := rngV v.value ∧ szV v.value + szN v.path ≤ Rows.uptoBulk d
theorem all2_cons {α : Type} {A : α → DataW H → Prop} {a : α} {l : List α} {es : List (DataW H)} (h : All2 A (a :: l) es) : ∃ y ys, es = y :: ys ∧ A a y ∧ All2 A l ys := by
  obtain ⟨h1, h2⟩ := h
  cases es with
  | nil => simp at h1
  | cons y ys => exact ⟨y, ys, rfl, h2 0 a y rfl rfl, by simpa using h1, fun i b z hb hz => h2 (i + 1) b z (by simpa using hb) (by simpa using hz)⟩
theorem szN_bulk : ∀ {l : List Str} {es : List (DataW H)}, All2 AStr l es → szN l ≤ Rows.uptoBulkAll es
  | [], es, _ => by simp [szN]
  | s :: l, es, h => by
    obtain ⟨y, ys, rfl, h1, h2⟩ := all2_cons h
    have := szN_bulk h2
    unfold AStr at h1
    subst h1
    simp only [szN, Rows.uptoBulkAll, Rows.uptoBulk]; omega
theorem szVs_bulk : ∀ {l : List Val} {es : List (DataW H)}, All2 AVal l es → rngVs l ∧ szVs l ≤ Rows.uptoBulkAll es
  | [], es, _ => by simp [szVs, rngVs]
  | s :: l, es, h => by
    obtain ⟨y, ys, rfl, h1, h2⟩ := all2_cons h
    have := szVs_bulk h2
    simp only [szVs, rngVs, Rows.uptoBulkAll]
    exact ⟨⟨h1.1, this.1⟩, by have := h1.2; omega⟩
theorem bulk_sl {α : Type} {A : α → DataW H → Prop} {l : List α} {d : DataW H} {n : Nat} (h : SlD A l d) (h0 : l = [] → n = 0) (h1 : ∀ es, All2 A l es → n ≤ Rows.uptoBulkAll es) : n + 1 ≤ Rows.uptoBulk d := by
  rcases h with ⟨rfl, h⟩ | ⟨es, sp, rfl, h⟩
  · have := h0 h
    simp [Rows.uptoBulk, this]
  · have := h1 es h
    simp only [Rows.uptoBulk]; omega
theorem open_strs (h : DataW.trod enc Tryz.prog w base spare held fuel 23 cs = some x) : ∃ l : List Str, RdC w [.sl 1 (l.map .str)] cs ∧ SlD AStr l x.1 :=
  rd_slice (z := 1) D.str AStr ((tabOk 23 _ th23).slice rfl) (cells_of (tabOk 9 _ th9)) (by decide) (fun _ => rfl) (fun _ => trivial) h fun n cs x _ h => by
    obtain ⟨s, h1, h2⟩ := rd_str ((tabOk 9 _ th9).str rfl) h
    exact ⟨s, h1, h2⟩
theorem open_val : ∀ (fuel : Nat) (cs : List Value) (x : DataW H × List MemPlace), DataW.trod enc Tryz.prog w base spare held fuel 25 cs = some x → ∃ v : Val, RdC w (valCells v) cs ∧ AVal v x.1 := by
  intro fuel
  induction fuel using Nat.strongRecOn with
  | _ fuel ih =>
    intro cs x h
    obtain ⟨ys, n, hn, hx, hl, hyl, hf⟩ := rd_struct (tabOk 25 _ th25) rfl h
    match ys, hyl with
    | [y0, y1, y2, y3, y4], _ =>
      have c1 := cells_of (tabOk 3 _ th3)
      have c9 := cells_of (tabOk 9 _ th9)
      have c25 := cells_of (tabOk 22 _ th22)
      have c22 := cells_of (tabOk 23 _ th23)
      have c27 := cells_of (tabOk 25 _ th25)
      have f0 := hf 0 (0, 3) rfl
      have f1 := hf 1 (1, 3) rfl
      have f2 := hf 2 (2, 9) rfl
      have f3 := hf 3 (3, 22) rfl
      have f4 := hf 4 (4, 23) rfl
      rw [c1] at f0 f1
      rw [c9] at f2
      rw [c25] at f3
      rw [c22] at f4
      rw [c27] at hl
      obtain ⟨k, k1, k2, k3⟩ := rd_int ((tabOk 3 _ th3).int rfl) (x := y0) f0
      obtain ⟨i, i1, i2, i3⟩ := rd_int ((tabOk 3 _ th3).int rfl) (x := y1) f1
      obtain ⟨s, s1, s2⟩ := rd_str ((tabOk 9 _ th9).str rfl) (x := y2) f2
      obtain ⟨vs, v1, v2⟩ := rd_slice (z := 5) encV AVal ((tabOk 22 _ th22).slice rfl) c27 (by decide) (fun a => by rw [encV_eq]; rfl) (fun a => by rw [encV_eq]; rfl) (x := y3) f3 fun m cs x hm h => by
        obtain ⟨v, h1, h2⟩ := ih m (by omega) cs x h
        exact ⟨v, by rw [encV_eq]; exact h1, h2⟩
      obtain ⟨ns, n1, n2⟩ := open_strs (x := y4) f4
      refine ⟨.mk k i s vs ns, ?_, ?_⟩
      · have := rdC_cat (cs := cs) (o := 0) (n := 1) k1 rfl (rdC_cat (n := 1) i1 rfl (rdC_cat (n := 1) s1 rfl (rdC_cat (n := 1) v1 rfl (rdC_cat (n := 1) n1 rfl (rdC_nil hl)))))
        simpa [valCells, Val.kind, Val.int, Val.text, Val.items, Val.names, encVs_map] using this
      · have b3 : rngVs vs ∧ szVs vs + 1 ≤ Rows.uptoBulk y3.1 := by
          refine ⟨?_, bulk_sl v2 (fun h => by rw [h]; rfl) fun es h => (szVs_bulk h).2⟩
          rcases v2 with ⟨_, rfl⟩ | ⟨es, sp, _, h⟩
          · trivial
          · exact (szVs_bulk h).1
        have b4 := bulk_sl n2 (n := szN ns) (fun h => by rw [h]; rfl) fun es h => szN_bulk h
        refine ⟨⟨wf_i64 i3, b3.1⟩, ?_⟩
        rw [hx]
        simp only [List.map_cons, List.map_nil, Rows.uptoBulk, Rows.uptoBulkAll, k2, i2, s2, szV]
        omega
theorem open_dlt (h : DataW.trod enc Tryz.prog w base spare held fuel 53 cs = some x) : ∃ d : Dlt, RdC w (encD d).cl cs ∧ ADlt d x.1 := by
  obtain ⟨ys, n, hn, hx, hl, hyl, hf⟩ := rd_struct (tabOk 53 _ th53) rfl h
  match ys, hyl with
  | [y0, y1, y2, y3], _ =>
    have f0 := hf 0 (0, 3) rfl
    have f1 := hf 1 (1, 23) rfl
    have f2 := hf 2 (2, 25) rfl
    have f3 := hf 3 (7, 3) rfl
    rw [cells_of (tabOk 3 _ th3)] at f0 f3
    rw [cells_of (tabOk 23 _ th23)] at f1
    rw [cells_of (tabOk 25 _ th25)] at f2
    rw [cells_of (tabOk 53 _ th53)] at hl
    obtain ⟨k, k1, k2, k3⟩ := rd_int ((tabOk 3 _ th3).int rfl) (x := y0) f0
    obtain ⟨p, p1, p2⟩ := open_strs (x := y1) f1
    obtain ⟨v, v1, v2⟩ := open_val n _ y2 f2
    obtain ⟨m, m1, m2, m3⟩ := rd_int ((tabOk 3 _ th3).int rfl) (x := y3) f3
    refine ⟨⟨k, p, v, m⟩, ?_, v2.1, ?_⟩
    · have := rdC_cat (cs := cs) (o := 0) (n := 1) k1 rfl (rdC_cat (n := 1) p1 rfl (rdC_cat (n := 5) v1 rfl (rdC_cat (n := 1) m1 rfl (rdC_nil hl))))
      simpa [encD, D.cl, valCells] using this
    · have b1 := bulk_sl p2 (n := szN p) (fun h => by rw [h]; rfl) fun es h => szN_bulk h
      have b2 := v2.2
      rw [hx]
      simp only [List.map_cons, List.map_nil, Rows.uptoBulk, Rows.uptoBulkAll, k2, m2]
      omega
theorem open_dlts (h : DataW.trod enc Tryz.prog w base spare held fuel 26 cs = some x) : ∃ l : List Dlt, RdC w [.sl 8 (l.map encD)] cs ∧ SlD ADlt l x.1 :=
  rd_slice (z := 8) encD ADlt ((tabOk 26 _ th26).slice rfl) (cells_of (tabOk 53 _ th53)) (by decide) (fun _ => rfl) (fun _ => rfl) h fun n cs x _ h => open_dlt h
/-- What a list of changes holds. -/
def szDs : List Dlt → Nat
  | [] => 0
  | d :: r => szV d.value + szN d.path + szDs r
theorem szDs_bulk : ∀ {l : List Dlt} {es : List (DataW H)}, All2 ADlt l es → szDs l ≤ Rows.uptoBulkAll es ∧ ∀ d ∈ l, rngV d.value
  | [], es, _ => by simp [szDs]
  | s :: l, es, h => by
    obtain ⟨y, ys, rfl, h1, h2⟩ := all2_cons h
    have := szDs_bulk h2
    simp only [szDs, Rows.uptoBulkAll]
    refine ⟨by have := h1.2; omega, fun d hd => ?_⟩
    rcases List.mem_cons.1 hd with rfl | hd
    · exact h1.1
    · exact this.2 d hd
theorem szDs_mem {l : List Dlt} {d : Dlt} (h : d ∈ l) : szV d.value + szN d.path ≤ szDs l := by
  induction l with
  | nil => cases h
  | cons a l ih =>
    simp only [szDs]
    rcases List.mem_cons.1 h with rfl | h
    · omega
    · have := ih h; omega
theorem dlts_all {l : List Dlt} {d : DataW H} (h : SlD ADlt l d) : szDs l + 1 ≤ Rows.uptoBulk d ∧ ∀ x ∈ l, rngV x.value := by
  refine ⟨bulk_sl h (fun h => by rw [h]; rfl) fun es h => (szDs_bulk h).1, ?_⟩
  rcases h with ⟨_, rfl⟩ | ⟨es, sp, _, h⟩
  · simp
  · exact (szDs_bulk h).2
def I64 (n : Int) : Prop := -9223372036854775808 ≤ n ∧ n ≤ 9223372036854775807
structure AEtr (e : Etr) (d : DataW H) : Prop where
  rt : I64 e.term
  rk : I64 e.kind
  rs : I64 e.session
  rn : I64 e.number
  ri : rngV e.id
  rd : rngV e.doc
  rl : ∀ x ∈ e.deltas, rngV x.value
  sz : szV e.id + szV e.doc + szDs e.deltas + e.coll.length + e.to.length + 1 ≤ Rows.uptoBulk d
theorem encE_cl (e : Etr) : (encE e).cl = [.int .i64 e.term, .int .i64 e.kind, .str e.coll, .str e.to] ++ valCells e.id ++ valCells e.doc ++ [.sl 8 (e.deltas.map encD), .int .i64 e.session, .int .i64 e.number] := rfl
theorem open_etr (h : DataW.trod enc Tryz.prog w base spare held fuel 28 cs = some x) : ∃ e : Etr, RdC w (encE e).cl cs ∧ AEtr e x.1 := by
  obtain ⟨ys, n, hn, hx, hl, hyl, hf⟩ := rd_struct (tabOk 28 _ th28) rfl h
  match ys, hyl with
  | [y0, y1, y2, y3, y4, y5, y6, y7, y8], _ =>
    have f0 := hf 0 (0, 3) rfl
    have f1 := hf 1 (1, 3) rfl
    have f2 := hf 2 (2, 9) rfl
    have f3 := hf 3 (3, 9) rfl
    have f4 := hf 4 (4, 25) rfl
    have f5 := hf 5 (9, 25) rfl
    have f6 := hf 6 (14, 26) rfl
    have f7 := hf 7 (15, 3) rfl
    have f8 := hf 8 (16, 3) rfl
    rw [cells_of (tabOk 3 _ th3)] at f0 f1 f7 f8
    rw [cells_of (tabOk 9 _ th9)] at f2 f3
    rw [cells_of (tabOk 25 _ th25)] at f4 f5
    rw [cells_of (tabOk 26 _ th26)] at f6
    rw [cells_of (tabOk 28 _ th28)] at hl
    obtain ⟨a, a1, a2, a3⟩ := rd_int ((tabOk 3 _ th3).int rfl) (x := y0) f0
    obtain ⟨b, b1, b2, b3⟩ := rd_int ((tabOk 3 _ th3).int rfl) (x := y1) f1
    obtain ⟨c, c1, c2⟩ := rd_str ((tabOk 9 _ th9).str rfl) (x := y2) f2
    obtain ⟨t, t1, t2⟩ := rd_str ((tabOk 9 _ th9).str rfl) (x := y3) f3
    obtain ⟨i, i1, i2⟩ := open_val n _ y4 f4
    obtain ⟨d, d1, d2⟩ := open_val n _ y5 f5
    obtain ⟨l, l1, l2⟩ := open_dlts (x := y6) f6
    obtain ⟨s, s1, s2, s3⟩ := rd_int ((tabOk 3 _ th3).int rfl) (x := y7) f7
    obtain ⟨m, m1, m2, m3⟩ := rd_int ((tabOk 3 _ th3).int rfl) (x := y8) f8
    have hl2 := dlts_all l2
    refine ⟨⟨a, b, c, t, i, d, l, s, m⟩, ?_, ⟨wf_i64 a3, wf_i64 b3, wf_i64 s3, wf_i64 m3, i2.1, d2.1, hl2.2, ?_⟩⟩
    · have := rdC_cat (cs := cs) (o := 0) (n := 1) a1 rfl (rdC_cat (n := 1) b1 rfl (rdC_cat (n := 1) c1 rfl (rdC_cat (n := 1) t1 rfl (rdC_cat (n := 5) i1 rfl (rdC_cat (n := 5) d1 rfl (rdC_cat (n := 1) l1 rfl (rdC_cat (n := 1) s1 rfl (rdC_cat (n := 1) m1 rfl (rdC_nil hl)))))))))
      simpa [encE_cl] using this
    · rw [hx]
      have e1 := i2.2
      have e2 := d2.2
      simp only [List.map_cons, List.map_nil, Rows.uptoBulk, Rows.uptoBulkAll, a2, b2, c2, t2, s2, m2]
      omega
structure AFlt (f : Flt) (d : DataW H) : Prop where
  rk : I64 f.kinds
  sz : f.coll.length + szN f.path ≤ Rows.uptoBulk d
theorem okE_of {e : Etr} {d : DataW H} (h : AEtr e d) (hb : Rows.uptoBulk d ≤ 1048576) : OkE e := by
  have hs := h.sz
  refine ⟨h.ri, by omega, h.rd, by omega, fun _ x hx => ⟨h.rl x hx, ?_⟩⟩
  have := szDs_mem hx
  omega
theorem okEd_of {e : Etr} {d : DataW H} (h : AEtr e d) (hb : Rows.uptoBulk d ≤ 1048576) : ∀ x ∈ e.deltas, szV x.value ≤ 1099511627776 := fun x hx => by
  have hs := h.sz
  have := szDs_mem hx
  omega
end
end Go.Proofs.YtfgampmhjfffdaaGreat.Abs

/- A run of code that is computed: loops, calls. -/
set_option linter.unusedVariables false
set_option linter.unusedSimpArgs false
namespace Go.Proofs.YtfgampmhjfffdaaGreat.Abs
open Go

section
variable (Θ : Tab) (nofr : Nat → Bool) (call : Nat → List SV → TM AO → Nat → Option XR)
/-- Rows that a drawn region's calls are handed. -/
def preD (l : List Oper) (s : XS) : List Nat := l.flatMap fun op => preF nofr op.op s
def postD (l : List Oper) (s : XS) : List Nat := l.flatMap fun op => postF op.op s
def xDrawF (ops : Array Oper) (s : XS) : Option XS :=
  match s.frzs (preD nofr ops.toList s) with
  | s1 => match xDraw Θ call ops s1 with
    | some s' => some s'
    | none => match xDraw Θ call ops ((s1.frzs (postD ops.toList s1)).soft) with
      | some s' => some s'
      | none => match xDrawP Θ call ops s1 with
        | some s' => some s'
        | none => xDrawP Θ call ops ((s1.frzs (postD ops.toList s1)).soft)
end

/-- The results of a body. -/
def xRes (Θ : Tab) : List ResultVar → XS → Option (List SV × XS)
  | [], s => some ([], s)
  | .tmp t :: r, s => match xRes Θ r s with
    | none => none
    | some (vs, s') => match s'.sl.get t with
      | none => some (.any :: vs, s')
      | some v => some (v :: vs, s')
  | .cell a t :: r, s => match xRes Θ r s with
    | none => none
    | some (vs, s') => match s'.sl.get a with
      | some (.loc k f) => match xld Θ s'.o.get t (.loc k f) with
        | some v => some (v :: vs, s')
        | none => none
      | _ => none
def cellsR (s : XS) : List ResultVar → List Nat
  | [] => []
  | .tmp _ :: r => cellsR s r
  | .cell a _ :: r => (match s.sl.get a with
    | some c => rowsO s.o c
    | none => []) ++ cellsR s r
theorem xRes_ok {Θ : Tab} : ∀ {rs : List ResultVar} {s s' : XS} {vs : List SV}, xRes Θ rs s = some (vs, s') → s' = s ∧ ResL Θ s.st rs vs
  | [], s, s', vs, h => by
    simp only [xRes, Option.some.injEq, Prod.mk.injEq] at h
    obtain ⟨rfl, rfl⟩ := h
    exact ⟨rfl, trivial⟩
  | .tmp t :: r, s, s', vs, h => by
    simp only [xRes] at h
    split at h
    · cases h
    · rename_i vs1 s1 h1
      obtain ⟨rfl, h2⟩ := xRes_ok h1
      split at h
      · rename_i hg
        simp only [Option.some.injEq, Prod.mk.injEq] at h
        obtain ⟨rfl, rfl⟩ := h
        exact ⟨rfl, (by show SV.any = (s1.sl.get t).getD .any; rw [hg]; rfl), h2⟩
      · rename_i v hg
        simp only [Option.some.injEq, Prod.mk.injEq] at h
        obtain ⟨rfl, rfl⟩ := h
        exact ⟨rfl, (by show v = (s1.sl.get t).getD .any; rw [hg]; rfl), h2⟩
  | .cell a t :: r, s, s', vs, h => by
    simp only [xRes] at h
    split at h
    · cases h
    · rename_i vs1 s1 h1
      obtain ⟨rfl, h2⟩ := xRes_ok h1
      split at h
      · rename_i k f hg
        split at h
        · rename_i v hv
          simp only [Option.some.injEq, Prod.mk.injEq] at h
          obtain ⟨rfl, rfl⟩ := h
          have hsl : s1.st.sl a = .loc k f := by show (s1.sl.get a).getD .any = _; rw [hg]; rfl
          refine ⟨rfl, ⟨⟨k, f, hsl⟩, ?_⟩, h2⟩
          rw [hsl]
          exact xld_ok Θ hv rfl
        · cases h
      · cases h

/-! ### calls that were run before -/
def itB : Obj → Obj → Bool
  | .stringIter a i, .stringIter b j => decide (a.data.toList = b.data.toList) && decide (i = j)
  | _, _ => false
theorem itB_ok {x y : Obj} (h : itB x y = true) : x = y := by
  unfold itB at h
  split at h
  · rename_i a i b j
    simp only [Bool.and_eq_true, decide_eq_true_eq] at h
    obtain ⟨h1, rfl⟩ := h
    obtain ⟨⟨a⟩⟩ := a
    obtain ⟨⟨b⟩⟩ := b
    simp at h1
    rw [h1]
  · cases h
def kvB : List (D × D) → List (D × D) → Bool
  | [], [] => true
  | (a, b) :: r, (c, d) :: q => D.eqb a c && (D.eqb b d && kvB r q)
  | _, _ => false
theorem kvB_ok : ∀ {x y : List (D × D)}, kvB x y = true → x = y
  | [], [], _ => rfl
  | [], _ :: _, h => by simp [kvB] at h
  | _ :: _, [], h => by simp [kvB] at h
  | (a, b) :: r, (c, d) :: q, h => by
    simp only [kvB, Bool.and_eq_true] at h
    rw [D.eqb_ok _ _ h.1, D.eqb_ok _ _ h.2.1, kvB_ok h.2.2]
def AO.eqb : AO → AO → Bool
  | .box a, .box b => SV.eqbs a b
  | .row e z xs, .row e2 z2 ys => decide (e = e2) && (decide (z = z2) && D.eqbs xs ys)
  | .raw (.ob a), .raw (.ob b) => itB a b
  | .raw (.map a), .raw (.map b) => kvB a b
  | _, _ => false
theorem AO.eqb_ok {x y : AO} (h : AO.eqb x y = true) : x = y := by
  unfold AO.eqb at h
  split at h
  · rw [SV.eqbs_ok h]
  · simp only [Bool.and_eq_true, decide_eq_true_eq] at h
    obtain ⟨rfl, rfl, h⟩ := h
    rw [D.eqbs_ok _ _ h]
  · rw [itB_ok h]
  · rw [kvB_ok h]
  · cases h
def tmB : TM AO → TM AO → Bool
  | .e, .e => true
  | .n none l r, .n none l2 r2 => tmB l l2 && tmB r r2
  | .n (some v) l r, .n (some v2) l2 r2 => AO.eqb v v2 && (tmB l l2 && tmB r r2)
  | _, _ => false
theorem tmB_ok : ∀ {x y : TM AO}, tmB x y = true → x = y
  | .e, .e, _ => rfl
  | .e, .n _ _ _, h => by simp [tmB] at h
  | .n none l r, .n none l2 r2, h => by
    simp only [tmB, Bool.and_eq_true] at h
    rw [tmB_ok h.1, tmB_ok h.2]
  | .n (some v) l r, .n (some v2) l2 r2, h => by
    simp only [tmB, Bool.and_eq_true] at h
    rw [AO.eqb_ok h.1, tmB_ok h.2.1, tmB_ok h.2.2]
  | .n none _ _, .n (some _) _ _, h => by simp [tmB] at h
  | .n (some _) _ _, .n none _ _, h => by simp [tmB] at h
  | .n (some _) _ _, .e, h => by simp [tmB] at h
  | .n none _ _, .e, h => by simp [tmB] at h
/-- A call that was run: the function, what it is handed, the objects; what comes of it. -/
structure ME where
  f : Nat
  a : List SV
  o : TM AO
  k : Nat
  r : SV
  o2 : TM AO
  k2 : Nat
/-- The functions' table, and the contracts of those that are not run. -/
structure Env where
  Θ : Tab
  tb : Nat → Option Func
  nat : Nat → List SV → Option D
  nofr : Nat → Bool
  pure : Nat → Bool
  memo : Nat → List SV → TM AO → Nat → Option XR
structure EnvOk (P : Program) (X : Env) : Prop where
  hΘ : TabOk P X.Θ
  tb : ∀ f fn, X.tb f = some fn → P.funcs[f]? = some fn ∧ (fn.name == "runtime.NumGoroutine") = false
  nat : ∀ f asx d, X.nat f asx = some d → PSpec P f asx (.d d)
  mix : P.follows .mixedOrders = true
  memo : CallOk P X.memo

def dataL : List SV → Bool
  | [] => true
  | .d _ :: r => dataL r
  | _ => false
def dataR : SV → Bool
  | .d _ => true
  | .tup xs => dataL xs
  | _ => false
/-- Rows that the results tell of. -/
def rowsR : List SV → List Nat
  | [] => []
  | .ag cs :: r => rowsL cs ++ rowsR r
  | c :: r => rowsV c ++ rowsR r
def SV.dd : SV → SV
  | .dx z xs => .d (.sl z xs)
  | .ag cs => match allD cs with
    | some ds => if ds.all D.leaf = true then .d (.agg ds) else .ag cs
    | none => .ag cs
  | c => c
theorem SR.dd {w : World} {S : Nat → Prop} {γ : Nat → Value} {o : Nat → Option AO} {c : SV} {v : Value} (hc : SR w S γ o c v) : SR w S γ o c.dd v := by
  cases c with
  | dx z xs => cases hc with
    | dx _ _ _ hr _ => exact .d _ _ hr
  | ag cs =>
    simp only [SV.dd]
    split
    · rename_i ds hds
      split
      · rename_i hl
        cases hc with
        | ag _ vs hv hr h1 =>
          have he := allD_spec hds
          subst he
          refine .d _ _ (.agg ds vs hl (by simpa using hv) fun i x u hx hu => ?_)
          have := hr i (.d x) u (by rw [List.getElem?_map, hx]; rfl) hu
          cases this with
          | d _ _ hq => exact hq
      · exact hc
    · exact hc
  | _ => exact hc
theorem SV.dd_lt {c : SV} {n : Nat} (hc : c.lt n) : c.dd.lt n := by
  cases c with
  | ag cs =>
    simp only [SV.dd]
    split
    · split
      · trivial
      · exact hc
    · exact hc
  | _ => first | exact hc | trivial
def XS.dd (s : XS) : XS := ⟨s.sl.mapT SV.dd, s.o, s.nk⟩
theorem XS.dd_ok {E : Ent} {s : XS} {a : Act} {w : World} (h : Rel E s.st a w) : Rel E s.dd.st a w := by
  obtain ⟨S, γ, h⟩ := h
  have e : ∀ u, (s.dd.st.sl u) = (s.st.sl u).dd := fun u => by
    simp only [XS.dd, XS.st, TM.get_mapT]
    cases s.sl.get u <;> rfl
  exact ⟨S, γ, h.sto, h.tr, fun u => by rw [e]; exact (h.sl u).dd, fun u => by rw [e]; exact SV.dd_lt (h.slt u), h.df, h.nn⟩
def XS.tame (Θ : Tab) (rs : List ResultVar) (s : XS) : XS :=
  match xRes Θ rs s with
  | some (vs, _) => (s.frzs (rowsR vs)).dd
  | none => s
theorem XS.tame_ok {Θ : Tab} {rs : List ResultVar} {E : Ent} {s : XS} {a : Act} {w : World} (h : Rel E s.st a w) : Rel E (s.tame Θ rs).st a w := by
  unfold XS.tame
  split
  · exact XS.dd_ok (XS.frzs_ok _ h)
  · exact h
mutual
/-- A call. One of a function that is said to be pure, with data alone, is run in an empty memory. -/
def xCall (X : Env) : Nat → Nat → List SV → TM AO → Nat → Option XR
  | 0, _, _, _, _ => none
  | m + 1, f, asx, o, nk => match X.memo f asx o nk with
    | some r => some r
    | none => match X.nat f asx with
      | some d => some (.d d, o, nk)
      | none => bif X.pure f && dataL asx then (match xBody X m true f asx .e 0 with
          | some (r, _, _) => bif dataR r then some (r, o, nk) else none
          | none => none)
        else xBody X m false f asx o nk
def xBody (X : Env) : Nat → Bool → Nat → List SV → TM AO → Nat → Option XR
  | 0, _, _, _, _, _ => none
  | m + 1, fz, f, asx, o, nk => match X.tb f with
      | none => none
      | some fn => match fn.body with
        | none => none
        | some c => bif Nat.ble asx.length fn.ntmps then match xC X m fn.ntmps c ⟨TM.ofList asx, o, nk⟩ with
            | none => none
            | some (e, s) => match (match e with
                | .normal => true
                | .ret => true
                | _ => false) with
              | false => none
              | true => match xRes X.Θ fn.results.toList (match fz with
                    | true => s.tame X.Θ fn.results.toList
                    | false => s) with
                | some (vs, s') => some (tupOf vs, s'.o, s'.nk)
                | none => match s.frzs (cellsR s fn.results.toList) with
                  | s1 => match xRes X.Θ fn.results.toList s1 with
                    | some (vs, s') => some (tupOf vs, s'.o, s'.nk)
                    | none => none
          else none
def xC (X : Env) : Nat → Nat → Code → XS → Option (Exit × XS)
  | 0, _, _, _ => none
  | m + 1, n, c, s => match c with
    | .skip => some (.normal, s)
    | .ret => some (.ret, s)
    | .exit id => some (.exit id, s)
    | .seq x y => match xC X m n x s with
      | none => none
      | some (e, s') => match e with
        | .normal => xC X m n y s'
        | e => some (e, s')
    | .block id c => match xC X m n c s with
      | none => none
      | some (e, s') => match e with
        | .exit id' => bif Nat.beq id' id then some (.normal, s') else some (.exit id', s')
        | e => some (e, s')
    | .cond x c d => match xev s x with
      | .d (.bool true) => xC X m n c s
      | .d (.bool false) => xC X m n d s
      | _ => none
    | .loop c => match xC X m n c s with
      | none => none
      | some (e, s') => match e with
        | .normal => xC X m n (.loop c) s'
        | e => some (e, s')
    | .scope c => match xC X m n c s with
      | none => none
      | some (e, s') => match e with
        | .goto _ => none
        | e => some (e, s')
    | .region _ ops drawn => bif ops.toList.all fun o => dstOk n o.dst then match drawn with
        | false => match xOps X.Θ X.nofr (xCall X m) ops ops.toList s with
          | some s' => some (.normal, s')
          | none => none
        | true => match xDrawF X.Θ X.nofr (xCall X m) ops s with
          | some s' => some (.normal, s')
          | none => none
      else none
    | _ => none
end

/-- What a run that was computed tells. -/
def Ran (P : Program) (n : Nat) (c : Code) (s : XS) (e : Exit) (s' : XS) : Prop := ∀ E a w, E.n = n → Rel E s.st a w → c.wp P (fun e2 a2 w2 => e2 = e ∧ Rel E s'.st a2 w2) a w
theorem xDrawF_ok {P : Program} {Θ : Tab} {nofr : Nat → Bool} {call : Nat → List SV → TM AO → Nat → Option XR} {n : Nat} (hΘ : TabOk P Θ) (hm : P.follows .mixedOrders = true) (hc : CallOk P call) {id : Nat} {ops : Array Oper} {s s' : XS} (hd : (ops.toList.all fun o => dstOk n o.dst) = true)
    (h : xDrawF Θ nofr call ops s = some s') : Ran P n (.region id ops true) s .normal s' := by
  have key : ∀ {s1 : XS}, xDraw Θ call ops s1 = some s' → ∀ E a w, E.n = n → Rel E s1.st a w → (Code.region id ops true).wp P (fun e2 a2 w2 => e2 = .normal ∧ Rel E s'.st a2 w2) a w := by
    intro s1 h1 E a w he hr
    have := xDraw_ok (Θ := Θ) (call := call) (P := P) (n := n) (k0 := E.nk) (Q := fun e s2 => e = .normal ∧ s2 = s'.st) (id := id) hΘ hm hc hd h1 ⟨rfl, rfl⟩ E a w he rfl hr
    exact Go.wp_mono this (by rintro e a' w' ⟨s2, h2, rfl, rfl⟩; exact ⟨rfl, h2⟩)
  have keyP : ∀ {s1 : XS}, xDrawP Θ call ops s1 = some s' → ∀ E a w, E.n = n → Rel E s1.st a w → (Code.region id ops true).wp P (fun e2 a2 w2 => e2 = .normal ∧ Rel E s'.st a2 w2) a w := by
    intro s1 h1 E a w he hr
    have := xDrawP_ok (Θ := Θ) (call := call) (P := P) (n := n) (k0 := E.nk) (Q := fun e s2 => e = .normal ∧ s2 = s'.st) (id := id) hΘ hm hc hd h1 ⟨rfl, rfl⟩ E a w he rfl hr
    exact Go.wp_mono this (by rintro e a' w' ⟨s2, h2, rfl, rfl⟩; exact ⟨rfl, h2⟩)
  intro E a w he hr
  unfold xDrawF at h
  simp only at h
  have hr1 := XS.frzs_ok (preD nofr ops.toList s) hr
  split at h
  · rename_i s2 h2
    simp only [Option.some.injEq] at h
    subst h
    exact key h2 E a w he hr1
  · split at h
    · rename_i s2 h2
      simp only [Option.some.injEq] at h
      subst h
      exact key h2 E a w he (XS.soft_ok (XS.frzs_ok _ hr1))
    · split at h
      · rename_i s2 h2
        simp only [Option.some.injEq] at h
        subst h
        exact keyP h2 E a w he hr1
      · exact keyP h E a w he (XS.soft_ok (XS.frzs_ok _ hr1))
theorem cond_bool {E : Ent} {s : XS} {a : Act} {w : World} {x : Operand} {b : Bool} (hr : Rel E s.st a w) (h : xev s x = .d (.bool b)) : a.eval x = .bool b := by
  obtain ⟨S, γ, hr⟩ := hr
  have h1 := hr.fr.ev x
  rw [← xev_eq, h] at h1
  generalize a.eval x = u at h1
  cases h1 with
  | d _ _ h2 => cases h2; rfl
theorem xC_loop {P : Program} {X : Env} : ∀ (m : Nat), (∀ k, k < m → ∀ n c s e s', xC X k n c s = some (e, s') → Ran P n c s e s') → ∀ n c s e s', xC X m n (.loop c) s = some (e, s') → ∀ E, E.n = n →
    ∃ k, ∀ a w, Rel E s.st a w → Code.rounds P c (fun e2 a2 w2 => e2 = e ∧ Rel E s'.st a2 w2) k a w
  | 0, _, n, c, s, e, s', h, _, _ => by simp [xC] at h
  | m + 1, ih, n, c, s, e, s', h, E, he => by
    simp only [xC] at h
    cases hb : xC X m n c s with
    | none => rw [hb] at h; cases h
    | some p =>
      obtain ⟨e1, s1⟩ := p
      rw [hb] at h
      have h1 := ih m (by omega) _ _ _ _ _ hb E
      cases e1 with
      | normal =>
        simp only at h
        obtain ⟨k, hk⟩ := xC_loop m (fun k hk => ih k (by omega)) n c s1 e s' h E he
        refine ⟨k + 1, fun a w hr => Go.wp_mono (h1 a w he hr) ?_⟩
        rintro e2 a2 w2 ⟨rfl, h2⟩
        exact hk a2 w2 h2
      | _ =>
        simp only [Option.some.injEq, Prod.mk.injEq] at h
        obtain ⟨rfl, rfl⟩ := h
        refine ⟨1, fun a w hr => Go.wp_mono (h1 a w he hr) ?_⟩
        rintro e2 a2 w2 ⟨rfl, h2⟩
        exact ⟨rfl, h2⟩
theorem of_list_st (asx : List SV) (o : TM AO) (nk : Nat) : (XS.mk (TM.ofList asx) o nk).st = { sl := slots asx, o := o.get, nk := nk } := by
  simp only [XS.st, St.mk.injEq, and_true]
  funext u
  rw [TM.get_ofList]
  simp [slots]
theorem ret_res {P : Program} {Θ : Tab} {E : Ent} {s s2 : XS} {rs : List ResultVar} {vs : List SV} {e : Exit} {a : Act} {w : World} (he : e = .normal ∨ e = .ret) (h : xRes Θ rs s = some (vs, s2)) (hr : Rel E s.st a w) :
    ∃ s3, Rel E s3 a w ∧ retC Θ rs (fun r2 o2 n2 => r2 = tupOf vs ∧ o2 = s2.o.get ∧ n2 = s2.nk) e s3 := by
  obtain ⟨rfl, h2⟩ := xRes_ok h
  refine ⟨_, hr, ?_⟩
  rcases he with rfl | rfl <;> exact ⟨vs, h2, rfl, rfl, rfl⟩
/-! ### runs from nothing -/
theorem dataL_d : ∀ {asx : List SV}, dataL asx = true → ∀ (i : Nat) (c : SV), asx[i]? = some c → ∃ x, c = .d x
  | [], _, i, c, h => by simp at h
  | .d x :: r, _, 0, c, h => by simp at h; exact ⟨x, h.symm⟩
  | .d x :: r, hd, i + 1, c, h => dataL_d (asx := r) (by simpa [dataL] using hd) i c (by simpa using h)
  | .loc _ _ :: r, hd, i, c, h => by simp [dataL] at hd
  | .row _ :: r, hd, i, c, h => by simp [dataL] at hd
  | .el _ :: r, hd, i, c, h => by simp [dataL] at hd
  | .rel _ _ _ :: r, hd, i, c, h => by simp [dataL] at hd
  | .clo _ _ _ :: r, hd, i, c, h => by simp [dataL] at hd
  | .tup _ :: r, hd, i, c, h => by simp [dataL] at hd
  | .raw _ :: r, hd, i, c, h => by simp [dataL] at hd
  | .any :: r, hd, i, c, h => by simp [dataL] at hd
  | .view _ _ _ _ :: r, hd, i, c, h => by simp [dataL] at hd
  | .dx _ _ :: r, hd, i, c, h => by simp [dataL] at hd
  | .ag _ :: r, hd, i, c, h => by simp [dataL] at hd
theorem sr_data {w w' : World} {S S' : Nat → Prop} {γ γ' : Nat → Value} {o o' : Nat → Option AO} {r : SV} {v : Value} (h : SR w S γ o r v) (hd : dataR r = true) (hS : ∀ k, S k → S' k) : SR w S' γ' o' r v ∧ ∀ m, r.lt m := by
  cases h with
  | d x _ hr => exact ⟨.d _ _ (hr.mono hS fun _ _ => rfl), fun _ => trivial⟩
  | tup xs vs hv hr =>
    have hd : dataL xs = true := hd
    refine ⟨.tup xs vs hv fun i c u hc hu => ?_, fun m => lts_of fun i c hc => ?_⟩
    · obtain ⟨x, rfl⟩ := dataL_d hd i c hc
      cases hr i _ u hc hu with
      | d _ _ hr => exact .d _ _ (hr.mono hS fun _ _ => rfl)
    · obtain ⟨x, rfl⟩ := dataL_d hd i c hc
      trivial
  | _ => simp [dataR] at hd
/-- What a run that was computed tells. -/
theorem Spec.closeR {P : Program} {f : FuncId} {asx : List SV} {x : SV} (ha : dataL asx = true) (hx : dataR x = true) (h : Spec P f asx (fun _ => none) 0 fun r _ _ => r = x) : PSpec P f asx x := by
  intro o nk w S γ vs h1 h2 h3 h4
  have hd : ∀ (i : Nat) (c : SV) (v : Value), asx[i]? = some c → vs[i]? = some v → SR w S γ (fun _ => none) c v := fun i c v hc hv => by
    have hr := h3 i c v hc hv
    obtain ⟨y, rfl⟩ := dataL_d ha i c hc
    cases hr with
    | d _ _ hr => exact .d _ _ hr
  have hl : SV.lts 0 asx := lts_of fun i c hc => by
    obtain ⟨d, rfl⟩ := dataL_d ha i c hc
    trivial
  have hs : Sto w S γ (fun _ => none) 0 := ⟨h1.s_lt, fun _ _ h => (by cases h), fun _ _ h => (by cases h), fun _ _ _ _ h => (by cases h), fun _ _ h => (by cases h), fun _ _ _ h => (by cases h), fun _ _ _ _ _ _ h => (by cases h)⟩
  refine (h w S γ vs hs h2 hd hl).mono ?_
  rintro v w' ⟨r, o', nk', S', γ', rfl, k1, k2, k3, k4⟩
  have hk : ∀ k, k < w.heap.size → w'.heap[k]? = w.heap[k]? := fun k hk => k2.kept k hk (by rintro ⟨t, x, ht, _⟩; cases ht)
  obtain ⟨m1, m2⟩ := h1.more (w' := w') (fun k => w.heap.size ≤ k ∧ k < w'.heap.size) (fun _ h => h) k2.os k2.tape k2.output k2.size hk
  have g := sr_data (w' := w) (γ' := γ) (o' := o) (S' := fun k => S k ∨ (w.heap.size ≤ k ∧ k < w'.heap.size)) k3 hx (fun k hk => by
    rcases k2.s_new k hk with h | h | ⟨t, x, ht, _⟩
    · exact .inl h
    · exact .inr ⟨h, k1.s_lt k hk⟩
    · cases ht)
  exact ⟨_, o, nk, _, γ, ⟨rfl, rfl, rfl⟩, m1, m2, g.1, g.2 _⟩
theorem dataL_map : ∀ xs : List D, dataL (xs.map .d) = true
  | [] => rfl
  | _ :: r => dataL_map r
theorem Spec.close {P : Program} {f : FuncId} {xs : List D} {x : D} (h : Spec P f (xs.map .d) (fun _ => none) 0 fun r _ _ => r = .d x) : PSpec P f (xs.map .d) (.d x) := Spec.closeR (dataL_map xs) rfl h
theorem xC_ok {P : Program} {X : Env} (hX : EnvOk P X) : ∀ m, (∀ n c s e s', xC X m n c s = some (e, s') → Ran P n c s e s') ∧ CallOk P (xCall X m) ∧ ∀ fz, CallOk P (xBody X m fz) := by
  intro m
  induction m using Nat.strongRecOn with
  | _ m ih =>
    cases m with
    | zero => exact ⟨fun n c s e s' h => by simp [xC] at h, fun f asx o nk r o' nk' h => by simp [xCall] at h, fun fz f asx o nk r o' nk' h => by simp [xBody] at h⟩
    | succ m =>
      obtain ⟨ihC, ihF, ihB⟩ := ih m (by omega)
      refine ⟨?_, ?_, ?_⟩
      · intro n c s e s' h
        cases c with
        | skip =>
          simp only [xC, Option.some.injEq, Prod.mk.injEq] at h
          obtain ⟨rfl, rfl⟩ := h
          exact fun E a w he hr => wp_skip ⟨rfl, hr⟩
        | ret =>
          simp only [xC, Option.some.injEq, Prod.mk.injEq] at h
          obtain ⟨rfl, rfl⟩ := h
          exact fun E a w he hr => wp_ret ⟨rfl, hr⟩
        | exit id =>
          simp only [xC, Option.some.injEq, Prod.mk.injEq] at h
          obtain ⟨rfl, rfl⟩ := h
          exact fun E a w he hr => wp_exit ⟨rfl, hr⟩
        | seq x y =>
          simp only [xC] at h
          cases hb : xC X m n x s with
          | none => rw [hb] at h; cases h
          | some p =>
            obtain ⟨e1, s1⟩ := p
            rw [hb] at h
            have h1 := ihC _ _ _ _ _ hb
            intro E a w he hr
            refine wp_seq (Go.wp_mono (h1 E a w he hr) ?_)
            rintro e2 a2 w2 ⟨rfl, h2⟩
            cases e2 with
            | normal => exact ihC _ _ _ _ _ h E a2 w2 he h2
            | _ =>
              simp only [Option.some.injEq, Prod.mk.injEq] at h
              obtain ⟨rfl, rfl⟩ := h
              exact ⟨rfl, h2⟩
        | block id c =>
          simp only [xC] at h
          cases hb : xC X m n c s with
          | none => rw [hb] at h; cases h
          | some p =>
            obtain ⟨e1, s1⟩ := p
            rw [hb] at h
            have h1 := ihC _ _ _ _ _ hb
            intro E a w he hr
            refine wp_block (Go.wp_mono (h1 E a w he hr) ?_)
            rintro e2 a2 w2 ⟨rfl, h2⟩
            cases e2 with
            | exit id' =>
              simp only at h
              show if id' = id then _ else _
              by_cases hid : id' = id
              · subst hid
                rw [if_pos rfl]
                simp only [Nat.beq_refl, cond_true, Option.some.injEq, Prod.mk.injEq] at h
                obtain ⟨rfl, rfl⟩ := h
                exact ⟨rfl, h2⟩
              · rw [if_neg hid]
                rw [TM.beq_cond, if_neg hid] at h
                simp only [Option.some.injEq, Prod.mk.injEq] at h
                obtain ⟨rfl, rfl⟩ := h
                exact ⟨rfl, h2⟩
            | _ =>
              simp only [Option.some.injEq, Prod.mk.injEq] at h
              obtain ⟨rfl, rfl⟩ := h
              exact ⟨rfl, h2⟩
        | cond x c d =>
          simp only [xC] at h
          intro E a w he hr
          split at h
          · rename_i hx
            exact wp_cond_true (cond_bool hr hx) (ihC _ _ _ _ _ h E a w he hr)
          · rename_i hx
            exact wp_cond_false (cond_bool hr hx) (ihC _ _ _ _ _ h E a w he hr)
          · cases h
        | loop c =>
          intro E a w he hr
          obtain ⟨k, hk⟩ := xC_loop (m + 1) (fun k hk => (ih k hk).1) n c s e s' h E he
          exact wp_loop_rounds k (hk a w hr)
        | scope c =>
          simp only [xC] at h
          cases hb : xC X m n c s with
          | none => rw [hb] at h; cases h
          | some p =>
            obtain ⟨e1, s1⟩ := p
            rw [hb] at h
            have h1 := ihC _ _ _ _ _ hb
            intro E a w he hr
            refine wp_scope_straight (Go.wp_mono (h1 E a w he hr) ?_)
            rintro e2 a2 w2 ⟨rfl, h2⟩
            cases e2 <;> first | (cases h; done) | (simp only [Option.some.injEq, Prod.mk.injEq] at h; obtain ⟨rfl, rfl⟩ := h; exact ⟨rfl, h2⟩)
        | region id ops drawn =>
          unfold xC at h
          simp only at h
          cases hd : (ops.toList.all fun o => dstOk n o.dst) with
          | false => rw [hd] at h; cases h
          | true =>
            rw [hd] at h
            simp only [cond_true] at h
            cases drawn with
            | false =>
              simp only at h
              split at h
              · rename_i s1 hs1
                simp only [Option.some.injEq, Prod.mk.injEq] at h
                obtain ⟨rfl, rfl⟩ := h
                intro E a w he hr
                refine wp_region_list ?_
                exact xOps_ok hX.hΘ ihF (fun a w hr => ⟨rfl, hr⟩) _ _ a w (by rw [he]; exact hd) hr hs1
              · cases h
            | true =>
              simp only at h
              split at h
              · rename_i s1 hs1
                simp only [Option.some.injEq, Prod.mk.injEq] at h
                obtain ⟨rfl, rfl⟩ := h
                exact xDrawF_ok hX.hΘ hX.mix ihF hd hs1
              · cases h
        | _ => simp [xC] at h
      · intro f asx o nk r o' nk' h
        simp only [xCall] at h
        split at h
        · rename_i r0 hd
          simp only [Option.some.injEq] at h
          subst h
          exact hX.memo f asx o nk r o' nk' hd
        split at h
        · rename_i d hd
          simp only [Option.some.injEq, Prod.mk.injEq] at h
          obtain ⟨rfl, rfl, rfl⟩ := h
          exact hX.nat f asx d hd o.get nk
        · cases hp : (X.pure f && dataL asx) with
          | false =>
            rw [hp] at h
            exact ihB false f asx o nk r o' nk' h
          | true =>
            rw [hp] at h
            simp only [cond_true] at h
            simp only [Bool.and_eq_true] at hp
            cases hb : xBody X m true f asx .e 0 with
            | none => rw [hb] at h; cases h
            | some q =>
              obtain ⟨r1, o1, k1⟩ := q
              rw [hb] at h
              simp only at h
              cases hd : dataR r1 with
              | false => rw [hd] at h; cases h
              | true =>
                rw [hd] at h
                simp only [cond_true, Option.some.injEq, Prod.mk.injEq] at h
                obtain ⟨rfl, rfl, rfl⟩ := h
                have hs := ihB true f asx .e 0 _ _ _ hb
                have he : (TM.e : TM AO).get = fun _ => none := by funext u; rfl
                rw [he] at hs
                exact Spec.closeR hp.2 hd (hs.mono fun r2 o2 n2 h => h.1) o.get nk
      · intro fz f asx o nk r o' nk' h
        simp only [xBody] at h
        split at h
        · cases h
        · rename_i fn hfn
          split at h
          · cases h
          · rename_i c hbody
            cases hle : Nat.ble asx.length fn.ntmps with
            | false => rw [hle] at h; cases h
            | true =>
              rw [hle] at h
              simp only [cond_true] at h
              split at h
              · cases h
              · rename_i e s1 hrun
                have hrun := ihC _ _ _ _ _ hrun
                split at h
                · cases h
                · rename_i he
                  have he : e = .normal ∨ e = .ret := by cases e <;> simp_all
                  obtain ⟨k1, k2⟩ := hX.tb f fn hfn
                  refine Spec.of_bodyC hX.hΘ (rs := fn.results.toList) (c := c) (n := fn.ntmps) ⟨fn, k1, hbody, k2, rfl, rfl⟩ (Nat.le_of_ble_eq_true hle) ?_
                  rw [← of_list_st]
                  intro E a w hn _ hr
                  refine Go.wp_mono (hrun E a w hn hr) ?_
                  rintro e2 a2 w2 ⟨rfl, h2⟩
                  split at h
                  · rename_i vs s2 hres
                    simp only [Option.some.injEq, Prod.mk.injEq] at h
                    obtain ⟨rfl, rfl, rfl⟩ := h
                    cases fz with
                    | true => exact ret_res (P := P) he hres (XS.tame_ok h2)
                    | false => exact ret_res (P := P) he hres h2
                  · split at h
                    · rename_i vs s2 hres
                      simp only [Option.some.injEq, Prod.mk.injEq] at h
                      obtain ⟨rfl, rfl, rfl⟩ := h
                      exact ret_res (P := P) he hres (XS.frzs_ok _ h2)
                    · cases h

def isD (x : D) : Option XR → Bool
  | some (.d y, _, _) => D.eqb x y
  | _ => false
/-- What the run yields, the function yields, whatever there is beside. -/
theorem PSpec.run {P : Program} {X : Env} (hX : EnvOk P X) (m : Nat) {f : FuncId} {xs : List D} {x : D} (h : isD x (xCall X m f (xs.map .d) .e 0) = true) : PSpec P f (xs.map .d) (.d x) := by
  refine Spec.close ?_
  cases hx : xCall X m f (xs.map .d) .e 0 with
  | none => rw [hx] at h; cases h
  | some p =>
    obtain ⟨r, o', nk'⟩ := p
    rw [hx] at h
    have hs := (xC_ok hX m).2.1 _ _ _ _ _ _ _ hx
    have he : (TM.e : TM AO).get = fun _ => none := by funext u; rfl
    rw [he] at hs
    refine hs.mono ?_
    rintro r2 o2 n2 ⟨rfl, _, _⟩
    cases r2 <;> simp only [isD] at h <;> try (cases h; done)
    rw [D.eqb_ok _ _ h]
/-- What a call's run tells. -/
def isR (r : SV) (o2 : TM AO) (k2 : Nat) : Option XR → Bool
  | some (r', o', k') => Nat.beq k2 k' && (SV.eqb r r' && tmB o2 o')
  | _ => false
theorem ME.run {P : Program} {X : Env} (hX : EnvOk P X) (m : Nat) (e : ME) (h : isR e.r e.o2 e.k2 (xCall X m e.f e.a e.o e.k) = true) : Spec P e.f e.a e.o.get e.k fun r2 o2 n2 => r2 = e.r ∧ o2 = e.o2.get ∧ n2 = e.k2 := by
  cases hx : xCall X m e.f e.a e.o e.k with
  | none => rw [hx] at h; cases h
  | some p =>
    obtain ⟨r, o', k'⟩ := p
    rw [hx] at h
    simp only [isR, Bool.and_eq_true] at h
    obtain ⟨h1, h2, h3⟩ := h
    rw [Nat.eq_of_beq_eq_true h1, SV.eqb_ok h2, tmB_ok h3]
    exact (xC_ok hX m).2.1 _ _ _ _ _ _ _ hx
def tbF : List (Nat × Func) → Nat → Option Func
  | [], _ => none
  | (k, fn) :: r, f => bif Nat.beq k f then some fn else tbF r f
theorem tbF_ok {P : Program} : ∀ (l : List (Nat × Func)), (∀ p ∈ l, P.funcs[p.1]? = some p.2 ∧ (p.2.name == "runtime.NumGoroutine") = false) → ∀ f fn, tbF l f = some fn → P.funcs[f]? = some fn ∧ (fn.name == "runtime.NumGoroutine") = false
  | [], _, f, fn, h => by simp [tbF] at h
  | (k, g) :: r, hl, f, fn, h => by
    simp only [tbF, TM.beq_cond] at h
    split at h
    · rename_i hk
      subst hk
      simp only [Option.some.injEq] at h
      subst h
      exact hl (k, g) (by simp)
    · exact tbF_ok r (fun p hp => hl p (by simp [hp])) f fn h
end Go.Proofs.YtfgampmhjfffdaaGreat.Abs

/- A run in the kernel. -/
set_option linter.unusedVariables false
set_option maxRecDepth 100000
namespace Go.Proofs.YtfgampmhjfffdaaGreat.Abs.Run6
open Go
noncomputable def tbl : List (Nat × Func) := [(6, Tryz.f6), (7, Tryz.f7), (17, Tryz.f17), (18, Tryz.f18), (19, Tryz.f19), (20, Tryz.f20), (21, Tryz.f21), (22, Tryz.f22), (23, Tryz.f23), (24, Tryz.f24), (25, Tryz.f25), (26, Tryz.f26), (36, Tryz.f36), (37, Tryz.f37), (38, Tryz.f38), (39, Tryz.f39), (40, Tryz.f40), (41, Tryz.f41), (42, Tryz.f42), (43, Tryz.f43), (44, Tryz.f44), (45, Tryz.f45), (46, Tryz.f46), (47, Tryz.f47), (48, Tryz.f48), (49, Tryz.f49), (50, Tryz.f50), (51, Tryz.f51), (52, Tryz.f52), (53, Tryz.f53), (54, Tryz.f54), (55, Tryz.f55), (56, Tryz.f56), (57, Tryz.f57), (58, Tryz.f58), (68, Tryz.f68), (69, Tryz.f69), (70, Tryz.f70), (71, Tryz.f71), (72, Tryz.f72), (73, Tryz.f73), (74, Tryz.f74), (75, Tryz.f75), (76, Tryz.f76), (77, Tryz.f77), (78, Tryz.f78), (79, Tryz.f79), (80, Tryz.f80), (81, Tryz.f81), (82, Tryz.f82), (83, Tryz.f83), (84, Tryz.f84), (85, Tryz.f85), (86, Tryz.f86), (87, Tryz.f87), (88, Tryz.f88), (89, Tryz.f89), (94, Tryz.f94), (95, Tryz.f95), (96, Tryz.f96), (97, Tryz.f97), (98, Tryz.f98), (99, Tryz.f99), (100, Tryz.f100), (101, Tryz.f101), (102, Tryz.f102), (103, Tryz.f103), (104, Tryz.f104), (105, Tryz.f105), (106, Tryz.f106), (107, Tryz.f107), (108, Tryz.f108), (109, Tryz.f109), (110, Tryz.f110), (111, Tryz.f111), (112, Tryz.f112), (113, Tryz.f113), (114, Tryz.f114), (115, Tryz.f115), (116, Tryz.f116), (117, Tryz.f117), (118, Tryz.f118), (119, Tryz.f119), (120, Tryz.f120), (121, Tryz.f121), (122, Tryz.f122), (124, Tryz.f124), (125, Tryz.f125), (126, Tryz.f126), (127, Tryz.f127), (128, Tryz.f128), (129, Tryz.f129), (130, Tryz.f130), (131, Tryz.f131), (132, Tryz.f132), (133, Tryz.f133), (134, Tryz.f134), (135, Tryz.f135), (136, Tryz.f136), (137, Tryz.f137), (138, Tryz.f138), (139, Tryz.f139), (140, Tryz.f140), (141, Tryz.f141), (142, Tryz.f142), (143, Tryz.f143), (145, Tryz.f145), (147, Tryz.f147), (148, Tryz.f148)]
theorem tbl_ok : ∀ p ∈ tbl, Tryz.prog.funcs[p.1]? = some p.2 ∧ (p.2.name == "runtime.NumGoroutine") = false := by
  simp only [tbl, List.forall_mem_cons]
  exact ⟨⟨Tryz.func6, by kernel_rfl⟩, ⟨Tryz.func7, by kernel_rfl⟩, ⟨Tryz.func17, by kernel_rfl⟩, ⟨Tryz.func18, by kernel_rfl⟩, ⟨Tryz.func19, by kernel_rfl⟩, ⟨Tryz.func20, by kernel_rfl⟩, ⟨Tryz.func21, by kernel_rfl⟩, ⟨Tryz.func22, by kernel_rfl⟩, ⟨Tryz.func23, by kernel_rfl⟩, ⟨Tryz.func24, by kernel_rfl⟩, ⟨Tryz.func25, by kernel_rfl⟩, ⟨Tryz.func26, by kernel_rfl⟩, ⟨Tryz.func36, by kernel_rfl⟩, ⟨Tryz.func37, by kernel_rfl⟩, ⟨Tryz.func38, by kernel_rfl⟩, ⟨Tryz.func39, by kernel_rfl⟩, ⟨Tryz.func40, by kernel_rfl⟩, ⟨Tryz.func41, by kernel_rfl⟩, ⟨Tryz.func42, by kernel_rfl⟩, ⟨Tryz.func43, by kernel_rfl⟩, ⟨Tryz.func44, by kernel_rfl⟩, ⟨Tryz.func45, by kernel_rfl⟩, ⟨Tryz.func46, by kernel_rfl⟩, ⟨Tryz.func47, by kernel_rfl⟩, ⟨Tryz.func48, by kernel_rfl⟩, ⟨Tryz.func49, by kernel_rfl⟩, ⟨Tryz.func50, by kernel_rfl⟩, ⟨Tryz.func51, by kernel_rfl⟩, ⟨Tryz.func52, by kernel_rfl⟩, ⟨Tryz.func53, by kernel_rfl⟩, ⟨Tryz.func54, by kernel_rfl⟩, ⟨Tryz.func55, by kernel_rfl⟩, ⟨Tryz.func56, by kernel_rfl⟩, ⟨Tryz.func57, by kernel_rfl⟩, ⟨Tryz.func58, by kernel_rfl⟩, ⟨Tryz.func68, by kernel_rfl⟩, ⟨Tryz.func69, by kernel_rfl⟩, ⟨Tryz.func70, by kernel_rfl⟩, ⟨Tryz.func71, by kernel_rfl⟩, ⟨Tryz.func72, by kernel_rfl⟩, ⟨Tryz.func73, by kernel_rfl⟩, ⟨Tryz.func74, by kernel_rfl⟩, ⟨Tryz.func75, by kernel_rfl⟩, ⟨Tryz.func76, by kernel_rfl⟩, ⟨Tryz.func77, by kernel_rfl⟩, ⟨Tryz.func78, by kernel_rfl⟩, ⟨Tryz.func79, by kernel_rfl⟩, ⟨Tryz.func80, by kernel_rfl⟩, ⟨Tryz.func81, by kernel_rfl⟩, ⟨Tryz.func82, by kernel_rfl⟩, ⟨Tryz.func83, by kernel_rfl⟩, ⟨Tryz.func84, by kernel_rfl⟩, ⟨Tryz.func85, by kernel_rfl⟩, ⟨Tryz.func86, by kernel_rfl⟩, ⟨Tryz.func87, by kernel_rfl⟩, ⟨Tryz.func88, by kernel_rfl⟩, ⟨Tryz.func89, by kernel_rfl⟩, ⟨Tryz.func94, by kernel_rfl⟩, ⟨Tryz.func95, by kernel_rfl⟩, ⟨Tryz.func96, by kernel_rfl⟩, ⟨Tryz.func97, by kernel_rfl⟩, ⟨Tryz.func98, by kernel_rfl⟩, ⟨Tryz.func99, by kernel_rfl⟩, ⟨Tryz.func100, by kernel_rfl⟩, ⟨Tryz.func101, by kernel_rfl⟩, ⟨Tryz.func102, by kernel_rfl⟩, ⟨Tryz.func103, by kernel_rfl⟩, ⟨Tryz.func104, by kernel_rfl⟩, ⟨Tryz.func105, by kernel_rfl⟩, ⟨Tryz.func106, by kernel_rfl⟩, ⟨Tryz.func107, by kernel_rfl⟩, ⟨Tryz.func108, by kernel_rfl⟩, ⟨Tryz.func109, by kernel_rfl⟩, ⟨Tryz.func110, by kernel_rfl⟩, ⟨Tryz.func111, by kernel_rfl⟩, ⟨Tryz.func112, by kernel_rfl⟩, ⟨Tryz.func113, by kernel_rfl⟩, ⟨Tryz.func114, by kernel_rfl⟩, ⟨Tryz.func115, by kernel_rfl⟩, ⟨Tryz.func116, by kernel_rfl⟩, ⟨Tryz.func117, by kernel_rfl⟩, ⟨Tryz.func118, by kernel_rfl⟩, ⟨Tryz.func119, by kernel_rfl⟩, ⟨Tryz.func120, by kernel_rfl⟩, ⟨Tryz.func121, by kernel_rfl⟩, ⟨Tryz.func122, by kernel_rfl⟩, ⟨Tryz.func124, by kernel_rfl⟩, ⟨Tryz.func125, by kernel_rfl⟩, ⟨Tryz.func126, by kernel_rfl⟩, ⟨Tryz.func127, by kernel_rfl⟩, ⟨Tryz.func128, by kernel_rfl⟩, ⟨Tryz.func129, by kernel_rfl⟩, ⟨Tryz.func130, by kernel_rfl⟩, ⟨Tryz.func131, by kernel_rfl⟩, ⟨Tryz.func132, by kernel_rfl⟩, ⟨Tryz.func133, by kernel_rfl⟩, ⟨Tryz.func134, by kernel_rfl⟩, ⟨Tryz.func135, by kernel_rfl⟩, ⟨Tryz.func136, by kernel_rfl⟩, ⟨Tryz.func137, by kernel_rfl⟩, ⟨Tryz.func138, by kernel_rfl⟩, ⟨Tryz.func139, by kernel_rfl⟩, ⟨Tryz.func140, by kernel_rfl⟩, ⟨Tryz.func141, by kernel_rfl⟩, ⟨Tryz.func142, by kernel_rfl⟩, ⟨Tryz.func143, by kernel_rfl⟩, ⟨Tryz.func145, by kernel_rfl⟩, ⟨Tryz.func147, by kernel_rfl⟩, ⟨Tryz.func148, by kernel_rfl⟩, by simp⟩
noncomputable def nofr : List Nat := [20, 37, 39, 40, 41, 42, 43, 44, 45, 47, 69, 72, 74, 76, 78, 79, 100, 101]
noncomputable def pures : List Nat := [7, 18, 22, 23, 24, 25, 26, 36, 48, 49, 50, 51, 53, 54, 55, 56, 58, 71, 73, 80, 81, 83, 84, 86, 87, 88, 89, 94, 95, 98, 99, 102, 103, 104, 105, 106, 109, 111, 113, 114, 116, 117, 118, 119, 120, 121, 122, 124, 125, 126, 127, 128, 129, 131, 132, 133, 134, 135, 136, 137, 138, 139, 141, 142, 143, 145, 147, 148]
def natF (f : Nat) (asx : List SV) : Option D :=
  match asx with
  | [.d (.str s), .d (.int .u8 c)] => bif Nat.beq f 144 then some (.int .i64 (Go.Lib.indexByte s c.toNat.toUInt8)) else none
  | [.d (.str s), .d (.str t)] => bif Nat.beq f 146 then some (.int .i64 (Go.Lib.compareBytes s t)) else none
  | _ => none
theorem natF_ok (f : Nat) (asx : List SV) (d : D) (h : natF f asx = some d) : PSpec Tryz.prog f asx (.d d) := by
  unfold natF at h
  split at h
  · rw [TM.beq_cond] at h
    split at h
    · rename_i hf; subst hf
      simp only [Option.some.injEq] at h; subst h
      exact s144 _ _
    · cases h
  · rw [TM.beq_cond] at h
    split at h
    · rename_i hf; subst hf
      simp only [Option.some.injEq] at h; subst h
      exact s146 _ _
    · cases h
  · cases h
noncomputable def env : Env := ⟨Θ, tbF tbl, natF, fun f => (nofr ++ []).contains f, fun f => pures.contains f, fun _ _ _ _ => none⟩
theorem envOk : EnvOk Tryz.prog env := ⟨tabOk, fun f fn h => tbF_ok tbl tbl_ok f fn h, natF_ok, mix, fun _ _ _ _ _ _ _ h => by cases h⟩
theorem ran : isD (.bool true) (xCall env 1000000 6 [] .e 0) = true := by kernel_rfl
theorem s : PSpec Tryz.prog 6 [] (.d (.bool true)) := PSpec.run envOk 1000000 (xs := []) ran
end Go.Proofs.YtfgampmhjfffdaaGreat.Abs.Run6
namespace Go.Proofs.YtfgampmhjfffdaaGreat.Abs
theorem s6 : PSpec Tryz.prog 6 [] (.d (.bool true)) := Run6.s
end Go.Proofs.YtfgampmhjfffdaaGreat.Abs

set_option linter.unusedVariables false
set_option linter.unusedSimpArgs false
set_option maxRecDepth 10000
namespace Go.Proofs.YtfgampmhjfffdaaGreat.Abs
open Go
theorem sameE_comm (a b : Etr) : sameE a b = sameE b a := by simp only [sameE]; rw [Bool.eq_iff_iff]; simp [eq_comm]

theorem fn3 : FnOk Tryz.prog 3 46 [4] (bodyOf Tryz.f3) := ⟨Tryz.f3, Tryz.func3, by kernel_rfl, by decide, by kernel_rfl, by kernel_rfl⟩
theorem s3 (a b : Etr) (oa : OkE a) (ob : OkE b) (vda : ∀ d ∈ a.deltas, szV d.value ≤ 1099511627776) (vdb : ∀ d ∈ b.deltas, szV d.value ≤ 1099511627776) : PSpec Tryz.prog 3 [.d (encE a), .d (encE b)] (.d (.bool true)) := by
 refine PSpec.of fn3 (by simp) fun o nk => ?_
 refine wr ?_
 refine u_step (g_box rfl fun o2 hb2 hk2 => ?_)
 refine u_step (g_box rfl fun o3 hb3 hk3 => ?_)
 have hb2_3 := (hk3 _ (by omega)).trans hb2
 refine ua ?_
 refine u_nil ?_
 refine WP.seq fun K4 hK4 => ?_
 refine wr ?_
 refine ug th28 hb2_3 ?_
 refine u_step (o_pcall (s4 a oa vda) rfl ?_)
 refine um ?_
 apply gF
 · rfl
 · intro hg
   exact pg th28 hb3
 apply gF
 · rfl
 · intro hg; try simp only [hg, ct]; try simp only [hg, ct, Bt]
   refine o_pcall (s4 b ob vdb) rfl ⟨rfl, rfl, rfl⟩
 refine uO ?_
 refine um ?_
 apply gF
 · rfl
 · intro hg
   exact pg th28 hb2_3
 apply gF
 · rfl
 · intro hg; try simp only [hg, ct]; try simp only [hg, ct, Bt]
   refine o_pcall (s5 a oa) rfl ⟨rfl, rfl, rfl⟩
 apply gF
 · rfl
 · intro hg; try simp only [hg, ct]; try simp only [hg, ct, Bt]
   exact pN
 refine uO ?_
 refine um ?_
 apply gF
 · rfl
 · intro hg
   exact pg th28 hb3
 apply gF
 · rfl
 · intro hg; try simp only [hg, ct]; try simp only [hg, ct, Bt]
   refine o_pcall (s5 b ob) rfl ⟨rfl, rfl, rfl⟩
 apply gF
 · rfl
 · intro hg; try simp only [hg, ct]; try simp only [hg, ct, Bt]
   exact pN
 refine uO ?_
 refine u_nil ?_
 refine wc (fun hc6 => ?_) (fun hc6 => ?_) <;> try simp only [Q0, Q1, Q2, Q3, Q4, Q5, Q6, Q7, Q8, ge_iff_le, gt_iff_lt] at hc6
 ·
  refine wr ?_
  refine u_step (o_pcall (s6) rfl ?_)
  refine ua ?_
  refine u_nil ?_
  refine WP.ret ?_
  refine ret_ok rfl ?_ (by omega) (fun t ht => (hk3 t (by omega)).trans ((hk2 t (by omega))))
  -- ret 1
  rfl
 ·
  have hma : mayE a = true := by have hq := hc6; simp at hq; grind
  have hmb : mayE b = true := by have hq := hc6; simp at hq; grind
  refine WP.skip ?_
  refine hK4 _ ?_
  refine wd ?_
  refine d_step (o_pcall (s6) rfl ⟨rfl, rfl, rfl⟩) ?_
  refine dm ?_
  apply d_guard
  · exact GC.t _
  · intro hg
    exact pg th28 hb2_3
  apply d_guard
  · exact GC.t _
  · intro hg
    exact pg th28 hb3
  apply d_guard
  · exact GC.t _
  · intro hg; try simp only [hg, ct]; try simp only [hg, ct, Bt]
    refine o_pcall (s7 a b oa ob hma) rfl ⟨rfl, rfl, rfl⟩
  apply d_guard
  · exact GC.t _
  · intro hg
    exact pg th28 hb2_3
  apply d_guard
  · exact GC.t _
  · intro hg
    exact pg th28 hb3
  apply d_guard
  · exact GC.t _
  · intro hg; try simp only [hg, ct]; try simp only [hg, ct, Bt]
    refine o_pcall (s8 a b) rfl ⟨rfl, rfl, rfl⟩
  apply d_guard
  · exact GC.t _
  · intro hg; try simp only [hg, ct]; try simp only [hg, ct, Bt]
    refine o_bin_eqb rfl rfl th4 rfl ⟨rfl, rfl, rfl⟩
  refine dA ?_
  refine dm ?_
  apply d_guard
  · exact GC.t _
  · intro hg
    exact pg th28 hb3
  apply d_guard
  · exact GC.t _
  · intro hg
    exact pg th28 hb2_3
  apply d_guard
  · exact GC.t _
  · intro hg; try simp only [hg, ct]; try simp only [hg, ct, Bt]
    refine o_pcall (s7 b a ob oa hmb) rfl ⟨rfl, rfl, rfl⟩
  apply d_guard
  · exact GC.t _
  · intro hg
    exact pg th28 hb2_3
  apply d_guard
  · exact GC.t _
  · intro hg
    exact pg th28 hb3
  apply d_guard
  · exact GC.t _
  · intro hg; try simp only [hg, ct]; try simp only [hg, ct, Bt]
    refine o_pcall (s8 a b) rfl ⟨rfl, rfl, rfl⟩
  apply d_guard
  · exact GC.t _
  · intro hg; try simp only [hg, ct]; try simp only [hg, ct, Bt]
    refine o_bin_eqb rfl rfl th4 rfl ⟨rfl, rfl, rfl⟩
  refine dA ?_
  refine dm ?_
  apply d_guard
  · exact GC.t _
  · intro hg
    exact pg th28 hb2_3
  apply d_guard
  · exact GC.t _
  · intro hg
    exact pg th28 hb2_3
  apply d_guard
  · exact GC.t _
  · intro hg; try simp only [hg, ct]; try simp only [hg, ct, Bt]
    refine o_pcall (s7 a a oa oa hma) rfl ⟨rfl, rfl, rfl⟩
  refine dA ?_
  refine da ?_
  refine d_nil ?_
  refine WP.ret ?_
  refine ret_ok rfl ?_ (by omega) (fun t ht => (hk3 t (by omega)).trans ((hk2 t (by omega))))
  -- ret 2
  refine congrArg D.bool ?_
  simp [sameE_refl, sameE_comm b a]

end Go.Proofs.YtfgampmhjfffdaaGreat.Abs

set_option linter.unusedVariables false
set_option linter.unusedSimpArgs false
set_option maxRecDepth 10000
namespace Go.Proofs.YtfgampmhjfffdaaGreat.lawEntrySames
open Go Abs
open Go.ChangeShapes Go.WideShapes Go.ChangeAt Go.RowKit
theorem own : ownKnob Tryz.prog.godebug = none := by kernel_rfl
theorem laid : laidOutB Tryz.prog = true := by kernel_rfl
theorem contract (H : Type) (enc : TypeId × Value → H) (W : World) (base : Nat) (args : Array Value) (ds gs : List (DataW H)) (before : List MemPlace)
    (hval : ∀ (j : Nat) t v, Tryz.f3.params[j]? = some t → args[j]? = some v → Value.okWide Tryz.prog W .any base t v)
    (hW : DataW.Whole enc Tryz.prog Tryz.f3.params.toList Rows.entrySamesSpec.vars false W args.toList ds gs before) (hk : Rows.uptoSmall H (ds ++ gs) = true) :
    Calls Tryz.prog 3 args W fun e W' => ∃ v, e = .returned v ∧ Rows.entrySamesSpec.post enc Tryz.prog Tryz.f3 false true false false W args v W' := by
  have hW' := hW
  obtain ⟨p, q, hA0, hV, rfl, hfz, hnd⟩ := hW
  have hA : DataW.TrodAll enc Tryz.prog W 0 (fun _ => true) true Tryz.f3.params.toList args.toList ds p := hA0
  rw [Tryz.params3] at hA hval
  obtain ⟨v0, vs0, d0, ds0, p0, q0, hargs, rfl, rfl, h0, r0⟩ := trodAll_cons hA
  obtain ⟨v1, vs1, d1, ds1, p1, q1, rfl, rfl, rfl, h1, r1⟩ := trodAll_cons r0
  obtain ⟨rfl, rfl, rfl⟩ := trodAll_nil r1
  obtain rfl : args = #[v0, v1] := by cases args; simp_all
  obtain ⟨rfl, rfl⟩ := trodVars_none hV
  clear hA0
  simp only [List.append_nil] at hW' hk
  have hb : Rows.uptoBulkAll [d0, d1] ≤ 1048576 := of_decide_eq_true hk
  simp only [Rows.uptoBulkAll] at hb
  obtain ⟨n0, t0⟩ := h0
  obtain ⟨a, c0, a0⟩ := open_etr t0
  have x0 := rdv_struct (hval 0 28 v0 rfl rfl) (tabOk _ _ th28) rfl c0 rfl rfl
  obtain ⟨n1, t1⟩ := h1
  obtain ⟨b, c1, a1⟩ := open_etr t1
  have x1 := rdv_struct (hval 1 28 v1 rfl rfl) (tabOk _ _ th28) rfl c1 rfl rfl
  have oa : OkE a := okE_of (d := d0) a0 (by omega)
  have da := okEd_of (d := d0) a0 (by omega)
  have ob : OkE b := okE_of (d := d1) a1 (by omega)
  have db := okEd_of (d := d1) a1 (by omega)
  refine (calls_of_spec (vs := [v0, v1]) (ds := [encE a, encE b]) Tryz.func3 (by kernel_rfl) (by kernel_rfl) (s3 a b oa ob da db) ⟨rfl, fun i x v hx hv => ?_⟩).mono fun e W' ⟨he, hg⟩ => ?_
  · match i, hx, hv with
    | 0, hx, hv => simp at hx hv; subst hx; subst hv; exact x0
    | 1, hx, hv => simp at hx hv; subst hx; subst hv; exact x1
    | i + 2, hx, hv => simp at hx
  subst he
  exact ⟨_, rfl, post_of_below (pa := p0 ++ (p1 ++ [])) (pv := []) hW' (fun _ _ _ => trodAll_cons_mk (shut_bool Tryz.underlying4 _) trodAll_mk0) (fun sp hs => trodAll_stays laid hg (by kernel_rfl) hA (fun x hx => hs x (by simpa using hx)) (fun x hx => hW'.lt x (by simpa using hx))) (fun _ _ => rfl) (by simp) hg (ok_one (by kernel_rfl) rfl (okWide_bool_mk Tryz.underlying4 _))⟩
set_option maxRecDepth 100000 in
theorem lifted (os : Os) (started : os.Started) (H : Type) (enc : TypeId × Value → H) (F : Stop.Interp) :
    ReturnsInHanded {} Tryz.checked os 3 .any ((Rows.OpenSpec.upto Rows.entrySamesSpec).pre6 enc Tryz.prog Tryz.f3 Rows.entrySamesUptoRow.domain false) (((Rows.OpenSpec.upto Rows.entrySamesSpec).at F).post enc Tryz.prog Tryz.f3 false true false false) := by
  refine returnsInHanded_of_cond (C := Tryz.checked) (s := Rows.OpenSpec.upto Rows.entrySamesSpec) (k := Rows.uptoSmall) rfl own started (by kernel_rfl) Tryz.func3
    (OpenSpec.witness (enc := enc) (C := Tryz.checked) (s := Rows.OpenSpec.upto Rows.entrySamesSpec) (k := Rows.uptoSmall) rfl false ⟨#[], #[.agg #[.int .i64 0, .int .i64 0, .string ⟨#[]⟩, .string ⟨#[]⟩, .int .i64 0, .int .i64 0, .string ⟨#[]⟩, .slice none 0 0, .slice none 0 0, .int .i64 0, .int .i64 0, .string ⟨#[]⟩, .slice none 0 0, .slice none 0 0, .slice none 0 0, .int .i64 0, .int .i64 0], .agg #[.int .i64 0, .int .i64 0, .string ⟨#[]⟩, .string ⟨#[]⟩, .int .i64 0, .int .i64 0, .string ⟨#[]⟩, .slice none 0 0, .slice none 0 0, .int .i64 0, .int .i64 0, .string ⟨#[]⟩, .slice none 0 0, .slice none 0 0, .slice none 0 0, .int .i64 0, .int .i64 0]], []⟩ 8 (by kernel_rfl) (by kernel_rfl) (by kernel_rfl)
      (x := ([.agg [.lit (.int .i64 0), .lit (.int .i64 0), .lit (.string []), .lit (.string []), .agg [.lit (.int .i64 0), .lit (.int .i64 0), .lit (.string []), .nil, .nil], .agg [.lit (.int .i64 0), .lit (.int .i64 0), .lit (.string []), .nil, .nil], .nil, .lit (.int .i64 0), .lit (.int .i64 0)], .agg [.lit (.int .i64 0), .lit (.int .i64 0), .lit (.string []), .lit (.string []), .agg [.lit (.int .i64 0), .lit (.int .i64 0), .lit (.string []), .nil, .nil], .agg [.lit (.int .i64 0), .lit (.int .i64 0), .lit (.string []), .nil, .nil], .nil, .lit (.int .i64 0), .lit (.int .i64 0)]], [], [])) (by kernel_rfl) rfl (by kernel_rfl)) ?_
  intro W base args ds gs before hval hW _ hk _
  exact contract H enc W base args ds gs before hval hW hk
theorem j0 : (fun (P : Program) (f : FuncId) (fn : Func) (s : ChangeSpec) (c : OpenClaim) => (c.wf (OpenSpec.ofChange s) : Bool)) Tryz.checked.prog 3 Tryz.f3 (Rows.OpenSpec.upto Rows.entrySamesSpec).bare Rows.entrySamesUptoRow = true := by kernel_rfl
theorem j1 : (fun (P : Program) (f : FuncId) (fn : Func) (s : ChangeSpec) (c : OpenClaim) => (laidOutB P : Bool)) Tryz.checked.prog 3 Tryz.f3 (Rows.OpenSpec.upto Rows.entrySamesSpec).bare Rows.entrySamesUptoRow = true := by kernel_rfl
theorem j2 : (fun (P : Program) (f : FuncId) (fn : Func) (s : ChangeSpec) (c : OpenClaim) => (mapsRowed P : Bool)) Tryz.checked.prog 3 Tryz.f3 (Rows.OpenSpec.upto Rows.entrySamesSpec).bare Rows.entrySamesUptoRow = true := by kernel_rfl
theorem j3 : (fun (P : Program) (f : FuncId) (fn : Func) (s : ChangeSpec) (c : OpenClaim) => (fn.params.all (P.readableRec ·) : Bool)) Tryz.checked.prog 3 Tryz.f3 (Rows.OpenSpec.upto Rows.entrySamesSpec).bare Rows.entrySamesUptoRow = true := by kernel_rfl
theorem j4 : (fun (P : Program) (f : FuncId) (fn : Func) (s : ChangeSpec) (c : OpenClaim) => (namedTie P c.named s.vars : Bool)) Tryz.checked.prog 3 Tryz.f3 (Rows.OpenSpec.upto Rows.entrySamesSpec).bare Rows.entrySamesUptoRow = true := by kernel_rfl
theorem j5 : (fun (P : Program) (f : FuncId) (fn : Func) (s : ChangeSpec) (c : OpenClaim) => ((c.stops == []) : Bool)) Tryz.checked.prog 3 Tryz.f3 (Rows.OpenSpec.upto Rows.entrySamesSpec).bare Rows.entrySamesUptoRow = true := by kernel_rfl
theorem j6 : (fun (P : Program) (f : FuncId) (fn : Func) (s : ChangeSpec) (c : OpenClaim) => ((P.stops == []) : Bool)) Tryz.checked.prog 3 Tryz.f3 (Rows.OpenSpec.upto Rows.entrySamesSpec).bare Rows.entrySamesUptoRow = true := by kernel_rfl
theorem j7 : (fun (P : Program) (f : FuncId) (fn : Func) (s : ChangeSpec) (c : OpenClaim) => ((c.knobs == []) : Bool)) Tryz.checked.prog 3 Tryz.f3 (Rows.OpenSpec.upto Rows.entrySamesSpec).bare Rows.entrySamesUptoRow = true := by kernel_rfl
theorem j8 : (fun (P : Program) (f : FuncId) (fn : Func) (s : ChangeSpec) (c : OpenClaim) => ((P.stopKnobs == []) : Bool)) Tryz.checked.prog 3 Tryz.f3 (Rows.OpenSpec.upto Rows.entrySamesSpec).bare Rows.entrySamesUptoRow = true := by kernel_rfl
theorem j9 : (fun (P : Program) (f : FuncId) (fn : Func) (s : ChangeSpec) (c : OpenClaim) => ((c.inPlace == P.inPlace f) : Bool)) Tryz.checked.prog 3 Tryz.f3 (Rows.OpenSpec.upto Rows.entrySamesSpec).bare Rows.entrySamesUptoRow = true := by kernel_rfl
theorem j10 : (fun (P : Program) (f : FuncId) (fn : Func) (s : ChangeSpec) (c : OpenClaim) => ((c.unfollowed == P.unfollowed f) : Bool)) Tryz.checked.prog 3 Tryz.f3 (Rows.OpenSpec.upto Rows.entrySamesSpec).bare Rows.entrySamesUptoRow = true := by kernel_rfl
theorem j11 : (fun (P : Program) (f : FuncId) (fn : Func) (s : ChangeSpec) (c : OpenClaim) => ((c.recurses == P.recurses f) : Bool)) Tryz.checked.prog 3 Tryz.f3 (Rows.OpenSpec.upto Rows.entrySamesSpec).bare Rows.entrySamesUptoRow = true := by kernel_rfl
theorem j12 : (fun (P : Program) (f : FuncId) (fn : Func) (s : ChangeSpec) (c : OpenClaim) => ((c.named == P.varsNamed f) : Bool)) Tryz.checked.prog 3 Tryz.f3 (Rows.OpenSpec.upto Rows.entrySamesSpec).bare Rows.entrySamesUptoRow = true := by kernel_rfl
theorem j13 : (fun (P : Program) (f : FuncId) (fn : Func) (s : ChangeSpec) (c : OpenClaim) => ((c.maps == (fn.params.toList ++ s.plain.varTypes P).any (P.mapsRec ·)) : Bool)) Tryz.checked.prog 3 Tryz.f3 (Rows.OpenSpec.upto Rows.entrySamesSpec).bare Rows.entrySamesUptoRow = true := by kernel_rfl
theorem j14 : (fun (P : Program) (f : FuncId) (fn : Func) (s : ChangeSpec) (c : OpenClaim) => ((c.ifaces == (fn.params.toList ++ s.plain.varTypes P).any (P.ifacesRec ·)) : Bool)) Tryz.checked.prog 3 Tryz.f3 (Rows.OpenSpec.upto Rows.entrySamesSpec).bare Rows.entrySamesUptoRow = true := by kernel_rfl
theorem j15 : (fun (P : Program) (f : FuncId) (fn : Func) (s : ChangeSpec) (c : OpenClaim) => ((c.mapsOut == P.mapsAmong fn.resultTypes.toList) : Bool)) Tryz.checked.prog 3 Tryz.f3 (Rows.OpenSpec.upto Rows.entrySamesSpec).bare Rows.entrySamesUptoRow = true := by kernel_rfl
theorem j16 : (fun (P : Program) (f : FuncId) (fn : Func) (s : ChangeSpec) (c : OpenClaim) => ((c.loops == (fn.params.toList ++ s.plain.varTypes P).any (P.loopsFrom ·)) : Bool)) Tryz.checked.prog 3 Tryz.f3 (Rows.OpenSpec.upto Rows.entrySamesSpec).bare Rows.entrySamesUptoRow = true := by kernel_rfl
theorem j17 : (fun (P : Program) (f : FuncId) (fn : Func) (s : ChangeSpec) (c : OpenClaim) => ((c.wideKeys == (fn.params.toList ++ s.plain.varTypes P ++ fn.resultTypes.toList).any (P.wideKeysFrom ·)) : Bool)) Tryz.checked.prog 3 Tryz.f3 (Rows.OpenSpec.upto Rows.entrySamesSpec).bare Rows.entrySamesUptoRow = true := by kernel_rfl
theorem j18 : (fun (P : Program) (f : FuncId) (fn : Func) (s : ChangeSpec) (c : OpenClaim) => (s.vars.all (P.varReadable ·) : Bool)) Tryz.checked.prog 3 Tryz.f3 (Rows.OpenSpec.upto Rows.entrySamesSpec).bare Rows.entrySamesUptoRow = true := by kernel_rfl
theorem j19 : (fun (P : Program) (f : FuncId) (fn : Func) (s : ChangeSpec) (c : OpenClaim) => (fn.resultTypes.all (fun t => P.readableRec t && decide (t < P.types.size)) : Bool)) Tryz.checked.prog 3 Tryz.f3 (Rows.OpenSpec.upto Rows.entrySamesSpec).bare Rows.entrySamesUptoRow = true := by kernel_rfl
theorem j20 : (fun (P : Program) (f : FuncId) (fn : Func) (s : ChangeSpec) (c : OpenClaim) => ((c.ifacesOut == fn.resultTypes.toList.any (P.ifacesRec ·)) : Bool)) Tryz.checked.prog 3 Tryz.f3 (Rows.OpenSpec.upto Rows.entrySamesSpec).bare Rows.entrySamesUptoRow = true := by kernel_rfl
theorem j21 : (fun (P : Program) (f : FuncId) (fn : Func) (s : ChangeSpec) (c : OpenClaim) => ((c.loopsOut == fn.resultTypes.toList.any (P.loopsFrom ·)) : Bool)) Tryz.checked.prog 3 Tryz.f3 (Rows.OpenSpec.upto Rows.entrySamesSpec).bare Rows.entrySamesUptoRow = true := by kernel_rfl
theorem j22 : (fun (P : Program) (f : FuncId) (fn : Func) (s : ChangeSpec) (c : OpenClaim) => ((c.plainKeys == P.plainKeys) : Bool)) Tryz.checked.prog 3 Tryz.f3 (Rows.OpenSpec.upto Rows.entrySamesSpec).bare Rows.entrySamesUptoRow = true := by kernel_rfl
theorem j23 : (fun (P : Program) (f : FuncId) (fn : Func) (s : ChangeSpec) (c : OpenClaim) => (c.shortTexts.isNone : Bool)) Tryz.checked.prog 3 Tryz.f3 (Rows.OpenSpec.upto Rows.entrySamesSpec).bare Rows.entrySamesUptoRow = true := by kernel_rfl
theorem j24 : (fun (P : Program) (f : FuncId) (fn : Func) (s : ChangeSpec) (c : OpenClaim) => (P.stopsHeard : Bool)) Tryz.checked.prog 3 Tryz.f3 (Rows.OpenSpec.upto Rows.entrySamesSpec).bare Rows.entrySamesUptoRow = true := by kernel_rfl
theorem j25 : (fun (P : Program) (f : FuncId) (fn : Func) (s : ChangeSpec) (c : OpenClaim) => (P.mayEnter : Bool)) Tryz.checked.prog 3 Tryz.f3 (Rows.OpenSpec.upto Rows.entrySamesSpec).bare Rows.entrySamesUptoRow = true := by kernel_rfl
theorem j26 : (fun (P : Program) (f : FuncId) (fn : Func) (s : ChangeSpec) (c : OpenClaim) => ((c.lifted == P.liftsFinal) : Bool)) Tryz.checked.prog 3 Tryz.f3 (Rows.OpenSpec.upto Rows.entrySamesSpec).bare Rows.entrySamesUptoRow = true := by kernel_rfl
theorem j27 : (fun (P : Program) (f : FuncId) (fn : Func) (s : ChangeSpec) (c : OpenClaim) => ((P.make == some c.make) : Bool)) Tryz.checked.prog 3 Tryz.f3 (Rows.OpenSpec.upto Rows.entrySamesSpec).bare Rows.entrySamesUptoRow = true := by kernel_rfl
theorem j28 : (fun (P : Program) (f : FuncId) (fn : Func) (s : ChangeSpec) (c : OpenClaim) => ((c.kinds == (if c.domain.isEmpty then [] else fn.params.toList.map fun t => match P.underlying t with | some (.int k) => some k | _ => none)) : Bool)) Tryz.checked.prog 3 Tryz.f3 (Rows.OpenSpec.upto Rows.entrySamesSpec).bare Rows.entrySamesUptoRow = true := by kernel_rfl
theorem j29 : (fun (P : Program) (f : FuncId) (fn : Func) (s : ChangeSpec) (c : OpenClaim) => ((c.pinned == c.pinnedBy) : Bool)) Tryz.checked.prog 3 Tryz.f3 (Rows.OpenSpec.upto Rows.entrySamesSpec).bare Rows.entrySamesUptoRow = true := by kernel_rfl
theorem j30 : (fun (P : Program) (f : FuncId) (fn : Func) (s : ChangeSpec) (c : OpenClaim) => ((c.veiled == (fn.params.toList ++ s.plain.varTypes P ++ fn.resultTypes.toList).any (P.veiledRec ·)) : Bool)) Tryz.checked.prog 3 Tryz.f3 (Rows.OpenSpec.upto Rows.entrySamesSpec).bare Rows.entrySamesUptoRow = true := by kernel_rfl
theorem j31 : (fun (P : Program) (f : FuncId) (fn : Func) (s : ChangeSpec) (c : OpenClaim) => (c.veiledFits P fn.params.toList (fn.params.toList ++ s.plain.varTypes P ++ fn.resultTypes.toList) : Bool)) Tryz.checked.prog 3 Tryz.f3 (Rows.OpenSpec.upto Rows.entrySamesSpec).bare Rows.entrySamesUptoRow = true := by kernel_rfl
theorem jand (a b : Bool) (h1 : a = true) (h2 : b = true) : (a && b) = true := by rw [h1, h2]; rfl
theorem closed : joinedFacts Tryz.checked.prog 3 Tryz.f3 (Rows.OpenSpec.upto Rows.entrySamesSpec).bare Rows.entrySamesUptoRow = true := jand _ _ (jand _ _ (jand _ _ (jand _ _ (jand _ _ (jand _ _ (jand _ _ (jand _ _ (jand _ _ (jand _ _ (jand _ _ (jand _ _ (jand _ _ (jand _ _ (jand _ _ (jand _ _ (jand _ _ (jand _ _ (jand _ _ (jand _ _ (jand _ _ (jand _ _ (jand _ _ (jand _ _ (jand _ _ (jand _ _ (jand _ _ (jand _ _ (jand _ _ (jand _ _ (jand _ _ j0 j1) j2) j3) j4) j5) j6) j7) j8) j9) j10) j11) j12) j13) j14) j15) j16) j17) j18) j19) j20) j21) j22) j23) j24) j25) j26) j27) j28) j29) j30) j31
theorem over : Rows.entrySamesUptoRow.holds Tryz.pinned (Rows.OpenSpec.upto Rows.entrySamesSpec) :=
  OpenClaim.holds_of_cond 3 Tryz.f3 rfl rfl rfl rfl rfl rfl rfl ⟨rfl, rfl, rfl, rfl, rfl⟩ rfl rfl rfl rfl rfl (by kernel_rfl) Tryz.func3 closed
    (of_decide_eq_true (by kernel_rfl)) (by unfold Func.isWrapper; first | (rw [if_pos (by decide +kernel)]; kernel_rfl) | (rw [if_neg (by decide +kernel)]; exact ⟨rfl, rfl⟩))
    (fun os started H enc _ F => lifted os started H enc F)
end Go.Proofs.YtfgampmhjfffdaaGreat.lawEntrySames
namespace Go.Proofs.YtfgampmhjfffdaaGreat
theorem entrySames_upto_holds : Rows.EntrySamesUptoSaid := lawEntrySames.over
end Go.Proofs.YtfgampmhjfffdaaGreat
