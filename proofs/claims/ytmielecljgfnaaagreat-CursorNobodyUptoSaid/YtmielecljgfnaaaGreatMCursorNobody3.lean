/- Part 3 of the proof that CursorNobody: called with any entries and any count that hold together at most 1048576 values and letters, the law answers true, and the entries read afterwards as they read before. -/
import Derived.Test.YtmielecljgfnaaaGreatMCursorNobody2
import Derived.Scope
import Derived.Test.YtmielecljgfnaaaGreatProg
import Derived.KernelRfl
import Derived.Test.YtmielecljgfnaaaGreatRows
import Derived.WalkKit
import Derived.ProofKit
import Derived.OpenShut
import Derived.JoinedCond
import Derived.ChangeArms
import Derived.Carry
import Derived.LoopN
/- Drawn regions in which objects are made or changed, one behind the other. -/
set_option linter.unusedVariables false
set_option linter.unusedSimpArgs false
namespace Go.Proofs.YtmielecljgfnaaaGreat.Abs
open Go

/-- What an operation does to the objects: nothing, between two counts of changes; the change of a number. -/
inductive Kd where
  | q (lo hi : Nat)
  | w (j : Nat)
  deriving DecidableEq

/-- What must have run before an operation. -/
def ancs (ops : List Oper) : Nat → List (List Nat)
  | 0 => []
  | n + 1 => ancs ops n ++ [match ops[n]? with
    | some o => (onsOf o ++ (onsOf o).flatMap fun j => (ancs ops n).getD j []).eraseDups
    | none => []]
theorem ancs_length (ops : List Oper) : ∀ n, (ancs ops n).length = n
  | 0 => rfl
  | n + 1 => by simp [ancs, ancs_length ops n]
theorem ancs_closed {ops : List Oper} {listed : Array Bool} (hlt : ∀ (i : Nat) (o : Oper), ops[i]? = some o → ∀ k ∈ onsOf o, k < i)
    (hcl : ∀ (j : Nat) (p : Oper), ops[j]? = some p → listed.getD j false = true → ∀ k ∈ onsOf p, listed.getD k false = true) :
    ∀ n i o, i < n → ops[i]? = some o → (∀ k ∈ onsOf o, listed.getD k false = true) → ∀ k ∈ (ancs ops n).getD i [], listed.getD k false = true
  | 0, i, o, h, _, _, _, _ => by omega
  | n + 1, i, o, h, ho, hon, k, hk => by
    by_cases hi : i < n
    · rw [ancs, List.getD_eq_getElem?_getD, List.getElem?_append_left (by rw [ancs_length]; exact hi), ← List.getD_eq_getElem?_getD] at hk
      exact ancs_closed hlt hcl n i o hi ho hon k hk
    · have : i = n := by omega
      subst this
      rw [ancs, List.getD_eq_getElem?_getD, List.getElem?_append_right (by rw [ancs_length]; exact Nat.le_refl _), ancs_length, Nat.sub_self, ho] at hk
      simp only [List.getElem?_cons_zero, Option.getD_some, List.mem_eraseDups, List.mem_append, List.mem_flatMap] at hk
      rcases hk with hk | ⟨j, hj, hk⟩
      · exact hon k hk
      · have hji := hlt i o ho j hj
        have hjl := hon j hj
        cases hp : ops[j]? with
        | none =>
          have : i < ops.length := (List.getElem?_eq_some_iff.1 ho).1
          have := List.getElem?_eq_none_iff.1 hp
          omega
        | some p => exact ancs_closed hlt hcl i j p hji hp (hcl j p hp hjl) k hk

def ancB (ops : List Oper) (i k : Nat) : Bool := ((ancs ops ops.length).getD i []).contains k

/-- The operations' kinds fit the order. -/
def phOk (ops : List Oper) (kd : List Kd) (wr : List Nat) : Bool :=
  decide (kd.length = ops.length) && decide wr.Nodup &&
  (wr.zipIdx.all fun x => decide (kd[x.1]? = some (.w x.2))) &&
  kd.zipIdx.all fun x => match x.1 with
    | .q lo hi => decide (lo ≤ wr.length) && !wr.contains x.2 && (wr.zipIdx.all fun y => (!decide (y.2 < lo) || ancB ops x.2 y.1) && (!decide (hi ≤ y.2) || ancB ops y.1 x.2))
    | .w j => decide (wr[j]? = some x.2) && wr.zipIdx.all fun y => !decide (y.2 < j) || ancB ops x.2 y.1

theorem cnd_T (v : SV) : cnd true v = v := by unfold cnd; rfl
theorem cnd_F (v : SV) : cnd false v = .tup [] := by unfold cnd; rfl
abbrev Ob := (Nat → Option AO) × Nat
def allP (n : Nat) (R : Nat → Prop) (lo : Nat) : Prop :=
  match n with
  | 0 => R lo
  | n + 1 => R lo ∧ allP n R (lo + 1)
theorem allP_at {R : Nat → Prop} : ∀ (n lo p : Nat), allP n R lo → lo ≤ p → p ≤ lo + n → R p
  | 0, lo, p, h, h1, h2 => by
    have : p = lo := by omega
    subst this; exact h
  | n + 1, lo, p, h, h1, h2 => by
    by_cases hp : p = lo
    · subst hp; exact h.1
    · exact allP_at n (lo + 1) p h.2 (by omega) (by omega)

/-- Whether an operation is done. -/
def gdc (ops : Array Oper) (s : St) (g : Option (Nat × Bool)) (c : Bool) : Prop :=
  match g with
  | none => c = true
  | some (i, want) => GC (gsl ops s i) want c
/-- One operation: what it yields, whenever it is its turn. -/
def eOp (P : Program) (Θ : Tab) (ops : Array Oper) (ph : Nat → Ob) (o : Oper) (sl : Nat → SV) (v : SV) : Kd → Prop
  | .q lo hi => allP (hi - lo) (fun p => gOp P Θ ops o ⟨sl, (ph p).1, (ph p).2⟩ v) lo
  | .w j => ∃ c v2, gdc ops ⟨sl, (ph j).1, (ph j).2⟩ o.guard c ∧ (c = true → vOp P Θ o.op ⟨sl, (ph j).1, (ph j).2⟩ fun v' o' nk' => v' = v2 ∧ o' = (ph (j + 1)).1 ∧ nk' = (ph (j + 1)).2) ∧ (c = false → ph (j + 1) = ph j) ∧ v = cnd c v2
def eOps (P : Program) (Θ : Tab) (ops : Array Oper) (K : St → Prop) (ph : Nat → Ob) (m : Nat) : List Oper → List Kd → (Nat → SV) → Prop
  | o :: r, k :: ks, sl => ∃ v, eOp P Θ ops ph o sl v k ∧ eOps P Θ ops K ph m r ks (pt sl o.dst v)
  | [], [], sl => K ⟨sl, (ph m).1, (ph m).2⟩
  | _, _, _ => False

theorem eOps_spec {P : Program} {Θ : Tab} {ops : Array Oper} {K : St → Prop} {ph : Nat → Ob} {m : Nat} : ∀ (l : List Oper) (ks : List Kd) (sl : Nat → SV), eOps P Θ ops K ph m l ks sl →
    ∃ vs : List SV, vs.length = l.length ∧ (∀ (i : Nat) (o : Oper) (v : SV) (k : Kd), l[i]? = some o → vs[i]? = some v → ks[i]? = some k → eOp P Θ ops ph o (slAt sl (((l.map (·.dst)).zip vs).take i)) v k) ∧
      K ⟨slAt sl ((l.map (·.dst)).zip vs), (ph m).1, (ph m).2⟩
  | [], [], sl, h => ⟨[], rfl, by simp, h⟩
  | [], k :: ks, sl, h => h.elim
  | o :: r, [], sl, h => h.elim
  | o :: r, k :: ks, sl, h => by
    obtain ⟨v, h1, h2⟩ := h
    obtain ⟨vs, h3, h4, h5⟩ := eOps_spec r ks _ h2
    refine ⟨v :: vs, by simp [h3], fun i p x q hp hx hq => ?_, h5⟩
    cases i with
    | zero =>
      simp only [List.getElem?_cons_zero, Option.some.injEq] at hp hx hq
      subst hp; subst hx; subst hq
      exact h1
    | succ i => exact h4 i p x q (by simpa using hp) (by simpa using hx) (by simpa using hq)

section
variable {P : Program} {Θ : Tab} {n k0 : Nat} {Q : Exit → St → Prop}

theorem WP.drawnW (hΘ : TabOk P Θ) (hm : P.follows .mixedOrders = true) {sl : Nat → SV} {id : Nat} {ops : Array Oper} (kd : List Kd) (wr : List Nat) (ph : Nat → Ob) (hd : (ops.toList.all fun o => dstOk n o.dst) = true) (hflow : flowOk ops = true) (hph : phOk ops.toList kd wr = true)
    (h : eOps P Θ ops (Q .normal) ph wr.length ops.toList kd sl) : WP P n k0 (.region id ops true) ⟨sl, (ph 0).1, (ph 0).2⟩ Q := by
  intro E a w e1 e2 hrel
  refine wp_region_any hm ?_
  obtain ⟨vs, hvl, hop, hfin⟩ := eOps_spec _ _ _ h
  generalize hprs : (ops.toList.map (·.dst)).zip vs = prs at hop hfin
  simp only [phOk, Bool.and_eq_true, decide_eq_true_eq] at hph
  obtain ⟨⟨⟨hkl, hnd⟩, hwk⟩, hkd⟩ := hph
  have hwk' : ∀ j i, wr[j]? = some i → kd[i]? = some (Kd.w j) := fun j i hj => by
    have := List.all_eq_true.1 hwk (i, j) (by rw [List.mem_zipIdx_iff_getElem?]; exact hj)
    simpa using this
  have hget : ∀ (j : Nat) (o : Oper), ops[j]? = some o → ∃ v, vs[j]? = some v ∧ prs[j]? = some (o.dst, v) := fun j o hj => by
    have hlt : j < ops.size := (Array.getElem?_eq_some_iff.1 hj).1
    have hv : vs[j]? = some (vs[j]'(by rw [hvl]; simpa using hlt)) := List.getElem?_eq_getElem _
    refine ⟨_, hv, ?_⟩
    rw [← hprs, List.getElem?_zip_eq_some]
    refine ⟨?_, hv⟩
    rw [List.getElem?_map]
    have : ops.toList[j]? = some o := by simpa using hj
    rw [this]; rfl
  have hback : ∀ (j : Nat) (d : Option Nat) (v : SV), prs[j]? = some (d, v) → ∃ o, ops[j]? = some o ∧ o.dst = d ∧ vs[j]? = some v := fun j d v hj => by
    rw [← hprs, List.getElem?_zip_eq_some, List.getElem?_map] at hj
    obtain ⟨h1, h2⟩ := hj
    obtain ⟨o, ho, rfl⟩ := Option.map_eq_some_iff.1 h1
    exact ⟨o, by simpa using ho, rfl, h2⟩
  have huniq : Uniq prs := fun i j u v x hi hj => by
    obtain ⟨o, ho, hod, _⟩ := hback i _ v hi
    obtain ⟨p, hp, hpd, _⟩ := hback j _ x hj
    have := (flow_spec hflow ho).2 j p hp
    simp only [flowAt, hpd, Bool.and_eq_true, Bool.or_eq_true, beq_iff_eq] at this
    rcases this.1 with h1 | h1
    · exact h1
    · simp [hod] at h1
  have hons : ∀ {o : Oper} {e : Edge}, e ∈ o.after → Region.binds .any e = true → e.on ∈ onsOf o := fun {o e} he hb => by
    simp only [onsOf, List.mem_map, List.mem_filter]
    exact ⟨e, ⟨by simpa using he, hb⟩, rfl⟩
  have hons' : ∀ {o : Oper} {j : Nat}, j ∈ onsOf o → ∃ e ∈ o.after, Region.binds .any e = true ∧ e.on = j := fun {o j} hj => by
    simp only [onsOf, List.mem_map, List.mem_filter] at hj
    obtain ⟨e, ⟨h1, h2⟩, h3⟩ := hj
    exact ⟨e, by simpa using h1, h2, h3⟩
  have honlt : ∀ (i : Nat) (o : Oper), ops.toList[i]? = some o → ∀ k ∈ onsOf o, k < i := fun i o ho => (flow_spec hflow (by simpa using ho)).1
  have hsl : ∀ (listed : Array Bool) (i : Nat) (o : Oper), (∀ (j : Nat) (p : Oper), ops[j]? = some p → listed.getD j false = true → ∀ k ∈ onsOf p, listed.getD k false = true) →
      ops[i]? = some o → listed.getD i true = false → (∀ k ∈ onsOf o, listed.getD k false = true) → ∀ u ∈ o.looksAt ops, slAt sl (prs.take i) u = slL sl prs listed u := by
    intro listed i o hcl ho hi hon u hu
    by_cases hex : ∃ (j : Nat) (x : SV), prs[j]? = some (some u, x)
    · obtain ⟨j, x, hj⟩ := hex
      obtain ⟨p, hp, hpd, _⟩ := hback j _ x hj
      have hfl := (flow_spec hflow ho).2 j p hp
      have hlook : (o.looksAt ops).contains u = true := by simpa using hu
      simp only [flowAt, hpd, Bool.and_eq_true, Bool.or_eq_true, beq_iff_eq, hlook, Bool.not_true, Bool.false_eq_true, false_or, decide_eq_true_eq, List.contains_eq_mem] at hfl
      rcases hfl.2 with ⟨h1, h2⟩ | ⟨h1, h2⟩
      · rw [slL_hit huniq hj (hon j h2)]
        refine slAt_hit _ _ j (by rw [List.getElem?_take, if_pos h1]; exact hj) fun k y hk => ?_
        rw [List.getElem?_take] at hk
        split at hk
        · exact huniq k j u y x hk hj
        · cases hk
      · rw [slAt_miss, slL_miss]
        · intro k y hk hl
          have := huniq k j u y x hk hj
          subst this
          have := hcl k p hp hl i h2
          have hif : listed.getD i false = false := by
            rcases Nat.lt_or_ge i listed.size with h' | h'
            · simp [h'] at hi ⊢; exact hi
            · simp [Array.getElem?_eq_none h'] at hi
          rw [hif] at this
          cases this
        · intro y hy
          obtain ⟨k, hk⟩ := List.getElem?_of_mem hy
          rw [List.getElem?_take] at hk
          split at hk
          · have := huniq k j u y x hk hj
            omega
          · cases hk
    · rw [slAt_miss, slL_miss]
      · exact fun k y hk _ => hex ⟨k, y, hk⟩
      · intro y hy
        obtain ⟨k, hk⟩ := List.getElem?_of_mem (List.mem_of_mem_take hy)
        exact hex ⟨k, y, hk⟩
  have hall : ∀ listed : Array Bool, (∀ i, i < ops.size → listed.getD i true = true) → slL sl prs listed = slAt sl prs ∨ ops.size > listed.size := by
    intro listed hL
    rcases Nat.lt_or_ge listed.size ops.size with h' | h'
    · exact .inr h'
    · left
      funext u
      by_cases hex : ∃ (j : Nat) (x : SV), prs[j]? = some (some u, x)
      · obtain ⟨j, x, hj⟩ := hex
        obtain ⟨p, hp, _, _⟩ := hback j _ x hj
        have hlt : j < ops.size := (Array.getElem?_eq_some_iff.1 hp).1
        rw [slL_hit huniq hj, slAt_hit _ _ j hj fun k y hk => huniq k j u y x hk hj]
        have := hL j hlt
        have hlt' : j < listed.size := by omega
        simp [hlt'] at this ⊢
        exact this
      · rw [slAt_miss, slL_miss]
        · exact fun k y hk _ => hex ⟨k, y, hk⟩
        · intro y hy
          obtain ⟨k, hk⟩ := List.getElem?_of_mem hy
          exact hex ⟨k, y, hk⟩
  have hwlt : ∀ j i, wr[j]? = some i → i < ops.size := fun j i hj => by
    have := (List.getElem?_eq_some_iff.1 (hwk' j i hj)).1
    rw [hkl] at this
    simpa using this
  -- all orders
  have main : ∀ (fuel : Nat) (listed : Array Bool) (p : Nat) (a : Act) (w : World), listed.size = ops.size → unl listed ops.size ≤ fuel → p ≤ wr.length → (∀ j i, wr[j]? = some i → (listed.getD i false = true ↔ j < p)) →
      (∀ (j : Nat) (p : Oper), ops[j]? = some p → listed.getD j false = true → ∀ k ∈ onsOf p, listed.getD k false = true) →
      Rel E ⟨slL sl prs listed, (ph p).1, (ph p).2⟩ a w →
      wpAny P .any ops (fun e a' w' => ∃ s', Rel E s' a' w' ∧ Q e s') fuel listed a w := by
    intro fuel
    have hdone : ∀ (listed : Array Bool) (p : Nat) (a : Act) (w : World), listed.size = ops.size → p ≤ wr.length → (∀ j i, wr[j]? = some i → (listed.getD i false = true ↔ j < p)) →
        (∀ i, i < ops.size → listed.getD i true = true) → Rel E ⟨slL sl prs listed, (ph p).1, (ph p).2⟩ a w → ∃ s', Rel E s' a w ∧ Q .normal s' := by
      intro listed p a w hsz hp hwp hL hr
      have hpe : p = wr.length := by
        by_cases h : p < wr.length
        · have h1 := hwp p wr[p] (List.getElem?_eq_getElem h)
          have h2 := hL wr[p] (hwlt p _ (List.getElem?_eq_getElem h))
          have h3 : listed.getD wr[p] false = true := by
            have : wr[p] < listed.size := by rw [hsz]; exact hwlt p _ (List.getElem?_eq_getElem h)
            simp [this] at h2 ⊢
            exact h2
          have := h1.1 h3
          omega
        · omega
      subst hpe
      refine ⟨_, hr, ?_⟩
      rcases hall listed hL with h1 | h1
      · rw [h1]; exact hfin
      · omega
    induction fuel with
    | zero =>
      intro listed p a w hsz hun hp hwp hcl hr
      have hL := unl_zero ops.size (by omega) (listed := listed)
      obtain ⟨s', h1, h2⟩ := hdone listed p a w hsz hp hwp hL hr
      refine ⟨?_, s', h1, h2⟩
      rw [List.eq_nil_iff_forall_not_mem]
      intro i hi
      rw [mem_ready] at hi
      obtain ⟨h0, o, ho, _⟩ := hi
      have := hL i (Array.getElem?_eq_some_iff.1 ho).1
      rw [this] at h0
      cases h0
    | succ fuel ih =>
      intro listed p a w hsz hun hp hwp hcl hr
      refine ⟨fun hnil => ?_, fun i hi => ?_⟩
      · have hL : ∀ i, i < ops.size → listed.getD i true = true := by
          intro i
          induction i using Nat.strongRecOn with
          | _ i ihi =>
            intro hlt
            by_cases hl : listed.getD i true = true
            · exact hl
            · exfalso
              simp only [Bool.not_eq_true] at hl
              have hmem : i ∈ Region.ready .any ops listed := by
                rw [mem_ready]
                refine ⟨hl, ops[i], by simp [hlt], fun e he hb => ?_⟩
                have hlt2 := (flow_spec hflow (i := i) (o := ops[i]) (by simp [hlt])).1 e.on (hons he hb)
                have := ihi e.on hlt2 (by omega)
                have hlt3 : e.on < listed.size := by omega
                simp [hlt3] at this ⊢
                exact this
              rw [hnil] at hmem
              cases hmem
        exact hdone listed p a w hsz hp hwp hL hr
      · have hi' := hi
        rw [mem_ready] at hi'
        obtain ⟨h0, o, ho, hon⟩ := hi'
        have hilt : i < ops.size := (Array.getElem?_eq_some_iff.1 ho).1
        have h0f : listed.getD i false = false := by
          have : i < listed.size := by omega
          simp [this] at h0 ⊢; exact h0
        obtain ⟨v, hv, hpv⟩ := hget i o ho
        have hon' : ∀ k ∈ onsOf o, listed.getD k false = true := fun k hk => by
          obtain ⟨e, h1, h2, rfl⟩ := hons' hk
          exact hon e h1 h2
        have hcl' : ∀ (j : Nat) (p : Oper), ops.toList[j]? = some p → listed.getD j false = true → ∀ k ∈ onsOf p, listed.getD k false = true := fun j p hj => hcl j p (by simpa using hj)
        have hanc : ∀ k, ancB ops.toList i k = true → listed.getD k false = true := fun k hk => by
          refine ancs_closed honlt hcl' ops.toList.length i o (by simpa using hilt) (by simpa using ho) hon' k ?_
          simpa [ancB] using hk
        have hancw : ∀ (j x : Nat), ancB ops.toList j x = true → listed.getD j false = true → listed.getD x false = true := fun j x hx hj => by
          cases hq : ops[j]? with
          | none =>
            have : listed.getD j false = false := by
              have := Array.getElem?_eq_none_iff.1 hq
              have : ¬ j < listed.size := by omega
              simp [this]
            rw [this] at hj; cases hj
          | some q =>
            refine ancs_closed honlt hcl' ops.toList.length j q (by simpa using (Array.getElem?_eq_some_iff.1 hq).1) (by simpa using hq) (hcl j q hq hj) x ?_
            simpa [ancB] using hx
        obtain ⟨k, hk⟩ : ∃ k, kd[i]? = some k := ⟨kd[i]'(by rw [hkl]; simpa using hilt), List.getElem?_eq_getElem _⟩
        have hkd' := List.all_eq_true.1 hkd (k, i) (by rw [List.mem_zipIdx_iff_getElem?]; exact hk)
        have he := hop i o v k (by simpa using ho) hv hk
        have hdo : dstOk E.n o.dst = true := by
          rw [e1]
          exact List.all_eq_true.1 hd o (by
            have : ops.toList[i]? = some o := by simpa using ho
            exact List.mem_of_getElem? this)
        have hpt : slL sl prs (listed.setIfInBounds i true) = pt (slL sl prs listed) o.dst v := by
          have hli : (listed.setIfInBounds i true).getD i false = true := by
            have : i < listed.size := by rw [hsz]; exact hilt
            simp [this]
          have hlf : ∀ j, j ≠ i → (listed.setIfInBounds i true).getD j false = listed.getD j false := fun j hj => getD_set_ne false (Ne.symm hj)
          funext u
          by_cases hex : ∃ (j : Nat) (x : SV), prs[j]? = some (some u, x)
          · obtain ⟨j, x, hj⟩ := hex
            by_cases hji : j = i
            · subst hji
              rw [hj] at hpv
              simp only [Option.some.injEq, Prod.mk.injEq] at hpv
              obtain ⟨h1, h2⟩ := hpv
              rw [slL_hit huniq hj hli, ← h1, h2]
              exact (upd_same _ _ _).symm
            · have hne : o.dst ≠ some u := fun e => hji (huniq j i u x v hj (by rw [hpv, e]))
              have hp : pt (slL sl prs listed) o.dst v u = slL sl prs listed u := by
                cases hod : o.dst with
                | none => rfl
                | some d => exact upd_ne _ _ fun e => hne (by rw [hod, e])
              rw [hp]
              by_cases hl : listed.getD j false = true
              · rw [slL_hit huniq hj hl, slL_hit huniq hj (by rw [hlf j hji]; exact hl)]
              · rw [slL_miss, slL_miss]
                · intro k y hk hlk
                  have := huniq k j u y x hk hj
                  subst this
                  exact hl hlk
                · intro k y hk hlk
                  have := huniq k j u y x hk hj
                  subst this
                  rw [hlf k hji] at hlk
                  exact hl hlk
          · have hne : o.dst ≠ some u := fun e => hex ⟨i, v, by rw [hpv, e]⟩
            have hp : pt (slL sl prs listed) o.dst v u = slL sl prs listed u := by
              cases hod : o.dst with
              | none => rfl
              | some d => exact upd_ne _ _ fun e => hne (by rw [hod, e])
            rw [hp, slL_miss, slL_miss]
            · exact fun k y hk _ => hex ⟨k, y, hk⟩
            · exact fun k y hk _ => hex ⟨k, y, hk⟩
        have hcl2 : ∀ (j : Nat) (p : Oper), ops[j]? = some p → (listed.setIfInBounds i true).getD j false = true → ∀ k ∈ onsOf p, (listed.setIfInBounds i true).getD k false = true := by
          intro j p hj hl k hk
          by_cases hji : j = i
          · subst hji
            rw [ho] at hj
            simp only [Option.some.injEq] at hj
            subst hj
            exact getD_set_true (hon' k hk)
          · rw [getD_set_ne false (Ne.symm hji)] at hl
            exact getD_set_true (hcl j p hj hl k hk)
        have hun2 : unl (listed.setIfInBounds i true) ops.size ≤ fuel := by
          have := unl_set h0 ops.size
          rw [if_pos hilt] at this
          omega
        have hseti : (listed.setIfInBounds i true).getD i false = true := by
          have : i < listed.size := by rw [hsz]; exact hilt
          simp [this]
        show wpOp P ops _ i _ a w
        unfold wpOp
        rw [ho]
        simp only
        cases k with
        | q lo hi =>
          simp only [Bool.and_eq_true, decide_eq_true_eq, Bool.not_eq_true'] at hkd'
          obtain ⟨⟨hlo, hnw⟩, hky⟩ := hkd'
          have hni : ∀ j, wr[j]? ≠ some i := fun j hj => by
            have : wr.contains i = true := by simpa using List.mem_of_getElem? hj
            rw [hnw] at this; cases this
          have hky' : ∀ j x, wr[j]? = some x → (j < lo → ancB ops.toList i x = true) ∧ (hi ≤ j → ancB ops.toList x i = true) := fun j x hj => by
            have := List.all_eq_true.1 hky (x, j) (by rw [List.mem_zipIdx_iff_getElem?]; exact hj)
            simp only [Bool.and_eq_true, Bool.or_eq_true, Bool.not_eq_true', decide_eq_false_iff_not] at this
            exact ⟨fun h => this.1.resolve_left fun h' => h' h, fun h => this.2.resolve_left fun h' => h' h⟩
          have hplo : lo ≤ p := by
            rcases Nat.lt_or_ge p lo with h | h
            · have hlt : p < wr.length := by omega
              have hw := List.getElem?_eq_getElem hlt
              have h1 := hanc _ ((hky' p _ hw).1 h)
              have := (hwp p _ hw).1 h1
              omega
            · exact h
          have hphi : p ≤ hi := by
            rcases Nat.lt_or_ge hi p with h | h
            · have hlt : hi < wr.length := by omega
              have hw := List.getElem?_eq_getElem hlt
              have h1 := (hwp hi _ hw).2 h
              have h2 := hancw _ _ ((hky' hi _ hw).2 (Nat.le_refl _)) h1
              rw [h0f] at h2; cases h2
            · exact h
          have hg0 := allP_at (hi - lo) lo p he hplo (by omega)
          have hg : gOp P Θ ops o ⟨slL sl prs listed, (ph p).1, (ph p).2⟩ v := gOp_congr (s := ⟨slAt sl (prs.take i), (ph p).1, (ph p).2⟩) (fun u hu => hsl listed i o hcl ho h0 hon' u hu) rfl rfl hg0
          have hstep := g_step (Q := fun e a' w' => ∃ s', Rel E s' a' w' ∧ Q e s') (next := wpAny P .any ops (fun e a' w' => ∃ s', Rel E s' a' w' ∧ Q e s') fuel (listed.setIfInBounds i true)) hΘ hr hdo hg (fun a' w' hr' => by
            refine ih _ p a' w' (by simpa using hsz) hun2 hp (fun j x hj => ?_) hcl2 (by rw [hpt]; exact hr')
            have hne : x ≠ i := fun e => hni j (by rw [hj, e])
            rw [getD_set_ne false (Ne.symm hne)]
            exact hwp j x hj)
          split
          · rename_i hw
            rw [if_pos hw] at hstep
            exact .inl hstep
          · rename_i hw
            rw [if_neg hw] at hstep
            exact hstep
        | w j =>
          simp only [Bool.and_eq_true, decide_eq_true_eq] at hkd'
          obtain ⟨hwj, hky⟩ := hkd'
          have hky' : ∀ j' x, wr[j']? = some x → j' < j → ancB ops.toList i x = true := fun j' x hj hlt => by
            have := List.all_eq_true.1 hky (x, j') (by rw [List.mem_zipIdx_iff_getElem?]; exact hj)
            simp only [Bool.or_eq_true, Bool.not_eq_true', decide_eq_false_iff_not] at this
            exact this.resolve_left fun h' => h' hlt
          have hjlt : j < wr.length := (List.getElem?_eq_some_iff.1 hwj).1
          have hpj : p = j := by
            have h1 : ¬ j < p := fun h => by
              have := (hwp j i hwj).2 h
              rw [h0f] at this; cases this
            rcases Nat.lt_or_ge p j with h | h
            · have hlt : p < wr.length := by omega
              have hw := List.getElem?_eq_getElem hlt
              have := (hwp p _ hw).1 (hanc _ (hky' p _ hw h))
              omega
            · omega
          subst hpj
          obtain ⟨c, v2, hgc, hvo, hsame, rfl⟩ := he
          have hgc2 : gdc ops ⟨slL sl prs listed, (ph p).1, (ph p).2⟩ o.guard c := by
            unfold gdc at hgc ⊢
            split at hgc
            · exact hgc
            · rename_i j want hg
              have hgs : gsl ops ⟨slL sl prs listed, (ph p).1, (ph p).2⟩ j = gsl ops ⟨slAt sl (prs.take i), (ph p).1, (ph p).2⟩ j := by
                unfold gsl
                split
                · rename_i d hd
                  refine (hsl listed i o hcl ho h0 hon' d ?_).symm
                  simp only [Oper.looksAt, List.mem_append, List.mem_filterMap]
                  right
                  rw [hg]
                  simp [hd]
                · rfl
              rw [hgs]; exact hgc
          have hlast : ∀ (a' : Act) (w' : World), Rel E { sl := pt (slL sl prs listed) o.dst (cnd c v2), o := (ph (p + 1)).1, nk := (ph (p + 1)).2 } a' w' → wpAny P .any ops (fun e a' w' => ∃ s', Rel E s' a' w' ∧ Q e s') fuel (listed.setIfInBounds i true) a' w' := by
            intro a' w' hr'
            refine ih _ (p + 1) a' w' (by simpa using hsz) hun2 (by omega) (fun j x hj => ?_) hcl2 (by rw [hpt]; exact hr')
            by_cases hx : x = i
            · subst hx
              have hjp : j = p := by
                obtain ⟨h1a, h1b⟩ := List.getElem?_eq_some_iff.1 hj
                obtain ⟨h2a, h2b⟩ := List.getElem?_eq_some_iff.1 hwj
                rcases Nat.lt_trichotomy j p with hlt | heq | hgt
                · exact absurd (h1b.trans h2b.symm) ((List.pairwise_iff_getElem.1 hnd) j p h1a h2a hlt)
                · exact heq
                · exact absurd (h2b.trans h1b.symm) ((List.pairwise_iff_getElem.1 hnd) p j h2a h1a hgt)
              rw [hseti, hjp]
              simp
            · rw [getD_set_ne false (Ne.symm hx), hwp j x hj]
              have : j ≠ p := fun e => hx (by
                subst e
                rw [hwj] at hj
                exact (Option.some.inj hj).symm)
              omega
          have hwant : Region.wanted o (yielded ops a.tmps) = c := by
            unfold gdc at hgc2
            unfold Region.wanted
            split at hgc2
            · rename_i hg; rw [hg]; exact hgc2.symm
            · rename_i j want hg
              rw [hg]
              exact guard_yield hr hgc2
          cases c with
          | true =>
            have hvo2 := vOp_congr (s := ⟨slAt sl (prs.take i), (ph p).1, (ph p).2⟩) (s' := ⟨slL sl prs listed, (ph p).1, (ph p).2⟩) (fun x hx => by
              cases x with
              | tmp t =>
                refine hsl listed i o hcl ho h0 hon' t ?_
                simp only [Oper.looksAt, List.mem_append, List.mem_filterMap]
                exact .inl ⟨.tmp t, by simpa using hx, rfl⟩
              | _ => rfl) rfl rfl (hvo rfl)
            rw [if_pos hwant]
            refine .inl (op_step hΘ hr hdo hvo2 ?_)
            rintro v' o' nk' a' w' ⟨rfl, rfl, rfl⟩ hr'
            exact hlast a' w' (by rw [cnd_T]; exact hr')
          | false =>
            rw [if_neg (by rw [hwant]; simp)]
            obtain ⟨S, γ, hr⟩ := hr
            refine hlast _ _ ?_
            rw [hsame rfl, cnd_F]
            exact ⟨S, γ, hr.put hdo hr.sto (Tr.refl _ _ _ _ _) (.tup [] [] rfl (by simp)) trivial⟩
  refine main ops.size _ 0 a _ (by simp) ?_ (Nat.zero_le _) ?_ ?_ ?_
  · have : ∀ m, unl (Array.replicate ops.size false) m ≤ m := by
      intro m
      induction m with
      | zero => simp [unl]
      | succ m ih => simp only [unl]; split <;> omega
    exact this _
  · intro j i _
    simp only [Nat.not_lt_zero, iff_false]
    intro hl
    simp only [Array.getD_eq_getD_getElem?, Array.getElem?_replicate] at hl
    split at hl <;> simp at hl
  · intro j p hj hl
    simp only [Array.getD_eq_getD_getElem?, Array.getElem?_replicate] at hl
    split at hl <;> simp at hl
  · obtain ⟨S, γ, hr⟩ := hrel
    obtain ⟨m1, m2⟩ := hr.sto.more (w' := { w with drawn := w.drawn + 1 }) (fun _ => False) (fun _ h => h.elim) rfl rfl rfl (Nat.le_refl _) (fun _ _ => rfl)
    have hsl : slL sl prs (Array.replicate ops.size false) = sl := by
      funext u
      refine slL_miss fun j v _ hl => ?_
      simp only [Array.getD_eq_getD_getElem?, Array.getElem?_replicate] at hl
      split at hl <;> simp at hl
    rw [hsl]
    exact ⟨_, γ, m1, hr.tr.trans m2, fun u => (hr.sl u).tr hr.sto m2 (hr.slt u), hr.slt, hr.df, hr.nn⟩
end
end Go.Proofs.YtmielecljgfnaaaGreat.Abs

/- The program's data, typed; what its functions answer. -/
set_option linter.unusedVariables false
set_option linter.unusedSimpArgs false
namespace Go.Proofs.YtmielecljgfnaaaGreat.Abs
open Go

abbrev Str := List UInt8
inductive Val where
  | mk (kind int : Int) (text : Str) (items : List Val) (names : List Str)
def Val.kind : Val → Int | .mk k _ _ _ _ => k
def Val.int : Val → Int | .mk _ i _ _ _ => i
def Val.text : Val → Str | .mk _ _ t _ _ => t
def Val.items : Val → List Val | .mk _ _ _ xs _ => xs
def Val.names : Val → List Str | .mk _ _ _ _ ns => ns

mutual
def encV : Val → D
  | .mk k i t xs ns => .agg [.int .i64 k, .int .i64 i, .str t, .sl 5 (encVs xs), .sl 1 (ns.map .str)]
def encVs : List Val → List D
  | [] => []
  | x :: xs => encV x :: encVs xs
end
section
variable {P : Program} {Θ : Tab} {K : SV → (Nat → Option AO) → Nat → Prop} {sl : Nat → SV} {o : Nat → Option AO} {nk : Nat} {x y ix : Operand} {t e f : Nat}
end

/-! ### short names, for the walks' own simp -/
section
variable {α β : Type} {p : Prop} [Decidable p] {a b : Bool} {m n : Nat}
end
/-- A text that may be a name in a value. -/
def nameV (s : Str) : Bool := decide (1 ≤ s.length ∧ s.length ≤ 32 ∧ s[0]? ≠ some 36 ∧ (46 : UInt8) ∉ s)

def twiceV (ns : List Str) : Bool := !decide ns.Nodup
/-- What a value's own parts must be, by its kind. -/
def kindOk (k i : Int) (t : Str) (n : Nat) (ns : List Str) : Bool :=
  if k = 1 then decide (i = 0) && decide (t = []) && decide (n = 0) && decide (ns.length = 0)
  else if k = 2 then decide (0 ≤ i) && decide (i ≤ 1) && decide (t = []) && decide (n = 0) && decide (ns.length = 0)
  else if k = 3 then decide (t = []) && decide (n = 0) && decide (ns.length = 0)
  else if k = 4 ∨ k = 5 then decide (i = 0) && decide (n = 0) && decide (ns.length = 0)
  else if k = 6 then decide (i = 0) && decide (t = []) && decide (ns.length = 0)
  else if k = 7 then decide (i = 0) && decide (t = []) && decide (ns.length = n) && !twiceV ns
  else false
mutual
def mayV : Val → Bool
  | .mk k i t xs ns => maysV xs && ns.all nameV && kindOk k i t xs.length ns
def maysV : List Val → Bool
  | [] => true
  | x :: xs => mayV x && maysV xs
end
mutual
def depthV : Val → Nat
  | .mk _ _ _ xs _ => depthsV xs + 1
def depthsV : List Val → Nat
  | [] => 0
  | x :: xs => max (depthV x) (depthsV xs)
end
/-- Whether two values are the same. -/
noncomputable instance : DecidableEq Val := fun _ _ => Classical.propDecidable _
structure Dlt where
  kind : Int
  path : List Str
  value : Val
  n : Int
def valCells (v : Val) : List D := [.int .i64 v.kind, .int .i64 v.int, .str v.text, .sl 5 (encVs v.items), .sl 1 (v.names.map .str)]
theorem encV_eq (v : Val) : encV v = .agg (valCells v) := by cases v; rfl
theorem pv {P : Program} {f : FuncId} {v : Val} {r : SV} (h : PSpec P f [.d (encV v)] r) : PSpec P f [.d (.agg (valCells v))] r := encV_eq v ▸ h

/-- How much a value holds. -/
def szN : List Str → Nat
  | [] => 0
  | s :: r => s.length + 1 + szN r
mutual
def szV : Val → Nat
  | .mk _ _ t xs ns => 1 + t.length + szVs xs + szN ns
def szVs : List Val → Nat
  | [] => 0
  | x :: xs => szV x + szVs xs
end
mutual
theorem depth_sz : ∀ v : Val, depthV v ≤ szV v
  | .mk k i t xs ns => by
    have := depths_sz xs
    simp only [depthV, szV]
    omega
theorem depths_sz : ∀ xs : List Val, depthsV xs ≤ szVs xs
  | [] => by simp [depthsV]
  | x :: xs => by
    have h1 := depth_sz x
    have h2 := depths_sz xs
    simp only [depthsV, szVs]
    omega
end
end Go.Proofs.YtmielecljgfnaaaGreat.Abs

/- Steps of drawn regions that write; more contracts of functions. -/
set_option linter.unusedVariables false
set_option linter.unusedSimpArgs false
namespace Go.Proofs.YtmielecljgfnaaaGreat.Abs
open Go

section
variable {P : Program} {Θ : Tab} {n k0 : Nat} {Q : Exit → St → Prop}
end
/-- Within a scope whose labels are not jumped to. -/
def Qsc (Q : Exit → St → Prop) : Exit → St → Prop
  | .goto _, _ => False
  | e, s => Q e s
theorem WP.scope {P : Program} {n k0 : Nat} {s : St} {Q : Exit → St → Prop} {c : Code} (h : WP P n k0 c s (Qsc Q)) : WP P n k0 (.scope c) s Q := fun E a w h1 h2 h3 => by
  refine wp_scope_straight (Go.wp_mono (h E a w h1 h2 h3) ?_)
  rintro e a' w' ⟨s', hr, q⟩
  cases e <;> first | exact q.elim | exact ⟨s', hr, q⟩
section
variable {P : Program} {Θ : Tab} {ops : Array Oper} {K : St → Prop} {r : List Oper} {sl : Nat → SV} {d ty j lo m nk nk' : Nat} {o o' : Nat → Option AO} {op : Op} {pos : String} {af : Array Edge} {want c : Bool} {v : SV} {L : List Ob} {ks : List Kd}
end

/-! ### writers, with what they make spelled out -/
section
variable {P : Program} {Θ : Tab} {K : SV → (Nat → Option AO) → Nat → Prop} {sl : Nat → SV} {o : Nat → Option AO} {nk : Nat} {x y ix : Operand} {t e f : Nat} {a b : D}
end

/-- It answers a row of its own, or nothing where there is nothing. -/
def DSpec (P : Program) (f : FuncId) (args : List SV) (e z : Nat) (xs : List D) : Prop := ∀ (o : Nat → Option AO) (nk : Nat), Spec P f args o nk fun r o' nk' => (r = .d .nil ∧ xs = [] ∧ nk ≤ nk' ∧ ∀ t, t < nk → o' t = o t) ∨ ∃ q, r = .row q ∧ nk ≤ q ∧ q < nk' ∧ o' q = some (.row e z xs) ∧ ∀ t, t < nk → o' t = o t
theorem DSpec.of {P : Program} {f : FuncId} {n : Nat} {ts : List Nat} {c : Code} {args : List SV} {e z : Nat} {xs : List D} (hf : FnOk P f n ts c) (hn : args.length ≤ n)
    (h : ∀ o nk, WP P n nk c ⟨slots args, o, nk⟩ (retQ ts fun r o' nk' => (r = .d .nil ∧ xs = [] ∧ nk ≤ nk' ∧ ∀ t, t < nk → o' t = o t) ∨ ∃ q, r = .row q ∧ nk ≤ q ∧ q < nk' ∧ o' q = some (.row e z xs) ∧ ∀ t, t < nk → o' t = o t)) : DSpec P f args e z xs := fun o nk => Spec.of_body hf hn (h o nk)
theorem DSpec.le {P : Program} {f : FuncId} {args args' : List SV} {e z : Nat} {xs : List D} (h : DSpec P f args' e z xs) (hl : SV.les args args') : DSpec P f args e z xs := fun o nk => (h o nk).le hl
theorem DSpec.bd {P : Program} {f : FuncId} {args : List SV} {e z : Nat} {xs : List D} (h : SV.bds args → DSpec P f args e z xs) : DSpec P f args e z xs := fun o nk => Spec.bd fun hb => h hb o nk
theorem frz_post {P : Program} {w : World} {S : Nat → Prop} {γ : Nat → Value} {o : Nat → Option AO} {nk : Nat} {z : Nat} {xs : List D} {v : Value} {w' : World} (h1 : Sto w S γ o nk) {r : SV} {o' : Nat → Option AO} {nk' : Nat} {S' : Nat → Prop} {γ' : Nat → Value} {e q : Nat}
    (hr : r = .row q) (ho : o' q = some (.row e z xs)) (hnq : nk ≤ q) (hfr : ∀ t, t < nk → o' t = o t) (hs : Sto w' S' γ' o' nk') (ht : Tr w S γ o nk w' S' γ' o' nk') (hsr : SR w' S' γ' o' r v) :
    Post P w S γ o nk (fun r o'' nk'' => r = .d (.sl z xs) ∧ o'' = o ∧ nk'' = nk) v w' := by
  subst hr
  obtain ⟨k1, k2, k3⟩ := hs.freeze ho
  have hv : Rd w' (fun k => S' k ∨ blk (γ' q) = some k) (.sl z xs) v := by
    cases hsr with
    | row _ _ hv => rw [hv e z xs ho]; exact k3
  have hk : Wko nk id (upd o' q none) o nk := by
    refine ⟨Nat.le_refl _, fun t x hx => ?_, fun t t' x x' _ _ e => e, fun _ _ _ _ => rfl⟩
    have hlt := h1.o_lt t x hx
    refine ⟨hlt, ?_, ?_⟩
    · rw [AO.ren_id]; show upd o' q none t = some x; rw [upd_ne _ _ (by omega), hfr t hlt, hx]
    · cases x with
      | box cs => exact (h1.box t cs hx).2
      | row => trivial
      | raw => trivial
  exact ⟨.d (.sl z xs), o, nk, _, γ' ∘ id, ⟨rfl, rfl, rfl⟩, hk.sto k1, hk.tr (ht.trans k2), .d _ _ hv, trivial⟩
theorem nil_post {P : Program} {w : World} {S : Nat → Prop} {γ : Nat → Value} {o : Nat → Option AO} {nk : Nat} {z : Nat} {v : Value} {w' : World} (h1 : Sto w S γ o nk) {r : SV} {o' : Nat → Option AO} {nk' : Nat} {S' : Nat → Prop} {γ' : Nat → Value}
    (hr : r = .d .nil) (hfr : ∀ t, t < nk → o' t = o t) (hs : Sto w' S' γ' o' nk') (ht : Tr w S γ o nk w' S' γ' o' nk') (hsr : SR w' S' γ' o' r v) :
    Post P w S γ o nk (fun r o'' nk'' => r = .d (.sl z []) ∧ o'' = o ∧ nk'' = nk) v w' := by
  subst hr
  have hk : Wko nk id o' o nk := by
    refine ⟨Nat.le_refl _, fun t x hx => ?_, fun t t' x x' _ _ e => e, fun _ _ _ _ => rfl⟩
    have hlt := h1.o_lt t x hx
    refine ⟨hlt, ?_, ?_⟩
    · rw [AO.ren_id]; show o' t = some x; rw [hfr t hlt, hx]
    · cases x with
      | box cs => exact (h1.box t cs hx).2
      | row => trivial
      | raw => trivial
  refine ⟨.d (.sl z []), o, nk, _, γ' ∘ id, ⟨rfl, rfl, rfl⟩, hk.sto hs, hk.tr ht, ?_, trivial⟩
  cases hsr with
  | d _ _ hrd => exact .d _ _ (hrd.le (by simp [D.le]))
/-- A row that the caller does not write: frozen. -/
theorem RSpec.frz {P : Program} {f : FuncId} {args : List SV} {e z : Nat} {xs : List D} (h : RSpec P f args e z xs) : PSpec P f args (.d (.sl z xs)) := fun o nk w S γ vs h1 h2 h3 h4 => by
  refine (h o nk w S γ vs h1 h2 h3 h4).mono ?_
  rintro v w' ⟨r, o', nk', S', γ', ⟨q, hr, k1, k2, k3, k4⟩, hs, ht, hsr, hl⟩
  exact frz_post h1 hr k3 k1 k4 hs ht hsr
theorem DSpec.frz {P : Program} {f : FuncId} {args : List SV} {e z : Nat} {xs : List D} (h : DSpec P f args e z xs) : PSpec P f args (.d (.sl z xs)) := fun o nk w S γ vs h1 h2 h3 h4 => by
  refine (h o nk w S γ vs h1 h2 h3 h4).mono ?_
  rintro v w' ⟨r, o', nk', S', γ', ⟨hr, rfl, k1, k4⟩ | ⟨q, hr, k1, k2, k3, k4⟩, hs, ht, hsr, hl⟩
  · exact nil_post h1 hr k4 hs ht hsr
  · exact frz_post h1 hr k3 k1 k4 hs ht hsr
/-- A new object under the next name; the others as they were. -/
theorem wk_new {P : Program} {f : FuncId} {args : List SV} {o : Nat → Option AO} {nk : Nat} {x : AO} (hx : ∀ m, x.lt m) (hi : x.ren (fun _ => 0) = x) {o' : Nat → Option AO} {nk' q : Nat} (h1 : nk ≤ q) (h2 : q < nk') (h3 : o' q = some x) (h4 : ∀ t, t < nk → o' t = o t)
    (hlt : ∀ t y, o t = some y → t < nk ∧ y.lt nk) (hr : ∀ τ, x.ren τ = x) (hid : ∀ t y, o t = some y → ∀ τ : Nat → Nat, (∀ u, u < nk → τ u = u) → y.ren τ = y) : Wko nk (fun t => if t = nk then q else t) o' (upd o nk (some x)) (nk + 1) := by
  refine ⟨by omega, fun t y hy => ?_, fun t t' y y' hy hy' e => ?_, fun t y ht _ => if_neg (by omega)⟩
  · unfold upd at hy
    split at hy
    · rename_i he
      subst he
      injection hy with hy
      subst hy
      exact ⟨by omega, by simp only [if_true, h3, hr], hx _⟩
    · rename_i hne
      obtain ⟨h5, h6⟩ := hlt t y hy
      refine ⟨by omega, ?_, ?_⟩
      · rw [if_neg hne, h4 t h5, hy, hid t y hy _ fun u hu => if_neg (by omega)]
      · cases y with
        | box cs => exact SV.lts_mono (by omega) h6
        | row => trivial
        | raw => trivial
  · have key : ∀ t y, upd o nk (some x) t = some y → t = nk ∨ t < nk := fun t y hy => by
      unfold upd at hy
      split at hy
      · rename_i he; exact .inl he
      · exact .inr (hlt t y hy).1
    have k1 := key t y hy
    have k2 := key t' y' hy'
    by_cases ht : t = nk
    · by_cases ht' : t' = nk
      · rw [ht, ht']
      · rw [if_pos ht, if_neg ht'] at e
        omega
    · by_cases ht' : t' = nk
      · rw [if_neg ht, if_pos ht'] at e
        omega
      · rw [if_neg ht, if_neg ht'] at e
        exact e
mutual
theorem SV.ren_lt {n : Nat} {τ : Nat → Nat} (h : ∀ u, u < n → τ u = u) : ∀ {c : SV}, c.lt n → c.ren τ = c
  | .loc t f, hl => by simp only [SV.ren, h t hl]
  | .row t, hl => by simp only [SV.ren, h t hl]
  | .rel t j f, hl => by simp only [SV.ren, h t hl]
  | .raw t, hl => by simp only [SV.ren, h t hl]
  | .view t lo n c, hl => by simp only [SV.ren, h t hl]
  | .dx z xs, _ => rfl
  | .clo g fs cs, hl => by simp only [SV.ren, SV.rens_lt h hl.1, SV.rens_lt h hl.2]
  | .tup cs, hl => by simp only [SV.ren]; rw [SV.rens_lt h hl]
  | .ag cs, hl => by simp only [SV.ren]; rw [SV.rens_lt h hl]
  | .d x, _ => rfl
  | .el x, _ => rfl
  | .any, _ => rfl
theorem SV.rens_lt {n : Nat} {τ : Nat → Nat} (h : ∀ u, u < n → τ u = u) : ∀ {cs : List SV}, SV.lts n cs → SV.rens τ cs = cs
  | [], _ => rfl
  | c :: cs, hl => by simp only [SV.rens]; rw [SV.ren_lt h hl.1, SV.rens_lt h hl.2]
end
/-- The new row under the next name. -/
theorem Spec.newRow {P : Program} {f : FuncId} {args : List SV} {o : Nat → Option AO} {nk : Nat} {e z : Nat} {xs : List D}
    (h : Spec P f args o nk fun r o' nk' => ∃ q, r = .row q ∧ nk ≤ q ∧ q < nk' ∧ o' q = some (.row e z xs) ∧ ∀ t, t < nk → o' t = o t) :
    Spec P f args o nk fun r o' nk' => r = .row nk ∧ o' = upd o nk (some (.row e z xs)) ∧ nk' = nk + 1 := by
  intro w S γ vs h1 h2 h3 h4
  refine (h w S γ vs h1 h2 h3 h4).mono ?_
  rintro v w' ⟨r, o', nk', S', γ', ⟨q, rfl, k1, k2, k3, k4⟩, hs, ht, hr, hl⟩
  have hlt : ∀ t y, o t = some y → t < nk ∧ y.lt nk := fun t y hy => by
    refine ⟨h1.o_lt t y hy, ?_⟩
    cases y with
    | box cs => exact (h1.box t cs hy).2
    | row => trivial
    | raw => trivial
  have hid : ∀ t y, o t = some y → ∀ τ : Nat → Nat, (∀ u, u < nk → τ u = u) → y.ren τ = y := fun t y hy τ hτ => by
    cases y with
    | box cs => simp only [AO.ren]; rw [SV.rens_lt hτ (h1.box t cs hy).2]
    | row => rfl
    | raw => rfl
  have hk : Wko nk (fun t => if t = nk then q else t) o' (upd o nk (some (.row e z xs))) (nk + 1) := wk_new (P := P) (f := f) (args := args) (x := .row e z xs) (fun _ => trivial) rfl k1 k2 k3 k4 hlt (fun _ => rfl) hid
  refine ⟨.row nk, _, _, S', γ' ∘ _, ⟨rfl, rfl, rfl⟩, hk.sto hs, hk.tr ht, hr.of_ren (fun t x hx => (hk.o t x hx).2.1) (.row nk) ?_, Nat.lt_succ_self _⟩
  simp [SV.ren]
theorem RSpec.new {P : Program} {f : FuncId} {args : List SV} {e z : Nat} {xs : List D} (h : RSpec P f args e z xs) (o : Nat → Option AO) (nk : Nat) : Spec P f args o nk fun r o' nk' => r = .row nk ∧ o' = upd o nk (some (.row e z xs)) ∧ nk' = nk + 1 :=
  Spec.newRow (h o nk)
end Go.Proofs.YtmielecljgfnaaaGreat.Abs

/- The table of types: written by tab.py. -/
set_option maxRecDepth 100000
namespace Go.Proofs.YtmielecljgfnaaaGreat.Abs
open Go

def tl : List (Nat × TI) := [
  (1, { k := .fn, sz := 1, bys := 8, z := some [.nilk 1] }),
  (2, { k := .int .i64, sz := 1, bys := 8, z := some [.int .i64 0] }),
  (3, { k := .int .i64, sz := 1, bys := 8, z := some [.int .i64 0] }),
  (4, { k := .bool, sz := 1, bys := 1, z := some [.bool false] }),
  (5, { k := .int .u8, sz := 1, bys := 1, z := some [.int .u8 0] }),
  (6, { k := .int .u8, sz := 1, bys := 1, z := some [.int .u8 0] }),
  (7, { k := .struct [(0, 2), (1, 3), (2, 4), (3, 6)], sz := 4, bys := 24, z := some [.int .i64 0, .int .i64 0, .bool false, .int .u8 0] }),
  (8, { k := .struct [(0, 2), (1, 3), (2, 4), (3, 6)], sz := 4, bys := 24, z := some [.int .i64 0, .int .i64 0, .bool false, .int .u8 0] }),
  (9, { k := .str, sz := 1, bys := 16, z := some [.str []] }),
  (10, { k := .str, sz := 1, bys := 16, z := some [.str []] }),
  (11, { k := .str, sz := 1, bys := 16, z := some [.str []] }),
  (12, { k := .int .u64, sz := 1, bys := 8, z := some [.int .u64 0] }),
  (13, { k := .struct [(0, 9), (1, 12)], sz := 2, bys := 24, z := some [.str [], .int .u64 0] }),
  (14, { k := .struct [(0, 9), (1, 12)], sz := 2, bys := 24, z := some [.str [], .int .u64 0] }),
  (15, { k := .ptr 298, sz := 1, bys := 8, z := some [.nilp] }),
  (16, { k := .ptr 301, sz := 1, bys := 8, z := some [.nilp] }),
  (17, { k := .ptr 309, sz := 1, bys := 8, z := some [.nilp] }),
  (18, { k := .struct [(0, 17)], sz := 1, bys := 8, z := some [.nilp] }),
  (19, { k := .struct [(0, 17)], sz := 1, bys := 8, z := some [.nilp] }),
  (21, { k := .int .i32, sz := 1, bys := 4, z := some [.int .i32 0] }),
  (22, { k := .fn, sz := 1, bys := 8, z := some [.nilk 1] }),
  (23, { k := .ptr 84, sz := 1, bys := 8, z := some [.nilp] }),
  (24, { k := .fn, sz := 1, bys := 8, z := some [.nilk 1] }),
  (25, { k := .slice 29, sz := 1, bys := 24, z := some [.nil] }),
  (26, { k := .slice 72, sz := 1, bys := 24, z := some [.nil] }),
  (27, { k := .slice 5, sz := 1, bys := 24, z := some [.nil] }),
  (28, { k := .struct [(0, 3), (1, 3), (2, 3), (3, 3), (4, 3), (5, 3), (6, 3), (7, 3), (8, 4), (9, 26), (10, 27)], sz := 11, bys := 120, z := some [.int .i64 0, .int .i64 0, .int .i64 0, .int .i64 0, .int .i64 0, .int .i64 0, .int .i64 0, .int .i64 0, .bool false, .nil, .nil] }),
  (29, { k := .struct [(0, 3), (1, 3), (2, 3), (3, 3), (4, 3), (5, 3), (6, 3), (7, 3), (8, 4), (9, 26), (10, 27)], sz := 11, bys := 120, z := some [.int .i64 0, .int .i64 0, .int .i64 0, .int .i64 0, .int .i64 0, .int .i64 0, .int .i64 0, .int .i64 0, .bool false, .nil, .nil] }),
  (30, { k := .fn, sz := 1, bys := 8, z := some [.nilk 1] }),
  (31, { k := .int .i64, sz := 1, bys := 8, z := some [.int .i64 0] }),
  (33, { k := .fn, sz := 1, bys := 8, z := some [.nilk 1] }),
  (34, { k := .fn, sz := 1, bys := 8, z := some [.nilk 1] }),
  (36, { k := .fn, sz := 1, bys := 8, z := some [.nilk 1] }),
  (37, { k := .fn, sz := 1, bys := 8, z := some [.nilk 1] }),
  (38, { k := .struct [(0, 3), (1, 25), (2, 3)], sz := 3, bys := 40, z := some [.int .i64 0, .nil, .int .i64 0] }),
  (39, { k := .struct [(0, 3), (1, 25), (2, 3)], sz := 3, bys := 40, z := some [.int .i64 0, .nil, .int .i64 0] }),
  (40, { k := .fn, sz := 1, bys := 8, z := some [.nilk 1] }),
  (41, { k := .fn, sz := 1, bys := 8, z := some [.nilk 1] }),
  (42, { k := .fn, sz := 1, bys := 8, z := some [.nilk 1] }),
  (43, { k := .fn, sz := 1, bys := 8, z := some [.nilk 1] }),
  (44, { k := .fn, sz := 1, bys := 8, z := some [.nilk 1] }),
  (45, { k := .fn, sz := 1, bys := 8, z := some [.nilk 1] }),
  (46, { k := .fn, sz := 1, bys := 8, z := some [.nilk 1] }),
  (47, { k := .fn, sz := 1, bys := 8, z := some [.nilk 1] }),
  (48, { k := .fn, sz := 1, bys := 8, z := some [.nilk 1] }),
  (50, { k := .fn, sz := 1, bys := 8, z := some [.nilk 1] }),
  (51, { k := .fn, sz := 1, bys := 8, z := some [.nilk 1] }),
  (52, { k := .fn, sz := 1, bys := 8, z := some [.nilk 1] }),
  (54, { k := .fn, sz := 1, bys := 8, z := some [.nilk 1] }),
  (55, { k := .fn, sz := 1, bys := 8, z := some [.nilk 1] }),
  (56, { k := .ptr 124, sz := 1, bys := 8, z := some [.nilp] }),
  (57, { k := .slice 76, sz := 1, bys := 24, z := some [.nil] }),
  (59, { k := .fn, sz := 1, bys := 8, z := some [.nilk 1] }),
  (60, { k := .slice 9, sz := 1, bys := 24, z := some [.nil] }),
  (61, { k := .struct [(0, 9), (1, 60), (2, 3)], sz := 3, bys := 48, z := some [.str [], .nil, .int .i64 0] }),
  (62, { k := .struct [(0, 9), (1, 60), (2, 3)], sz := 3, bys := 48, z := some [.str [], .nil, .int .i64 0] }),
  (63, { k := .fn, sz := 1, bys := 8, z := some [.nilk 1] }),
  (64, { k := .fn, sz := 1, bys := 8, z := some [.nilk 1] }),
  (65, { k := .fn, sz := 1, bys := 8, z := some [.nilk 1] }),
  (66, { k := .fn, sz := 1, bys := 8, z := some [.nilk 1] }),
  (67, { k := .slice 69, sz := 1, bys := 24, z := some [.nil] }),
  (68, { k := .struct [(0, 3), (1, 3), (2, 9), (3, 67), (4, 60)], sz := 5, bys := 80, z := some [.int .i64 0, .int .i64 0, .str [], .nil, .nil] }),
  (69, { k := .struct [(0, 3), (1, 3), (2, 9), (3, 67), (4, 60)], sz := 5, bys := 80, z := some [.int .i64 0, .int .i64 0, .str [], .nil, .nil] }),
  (70, { k := .slice 183, sz := 1, bys := 24, z := some [.nil] }),
  (71, { k := .struct [(0, 3), (1, 3), (2, 9), (3, 9), (4, 69), (9, 69), (14, 70), (15, 3), (16, 3)], sz := 17, bys := 248, z := some [.int .i64 0, .int .i64 0, .str [], .str [], .int .i64 0, .int .i64 0, .str [], .nil, .nil, .int .i64 0, .int .i64 0, .str [], .nil, .nil, .nil, .int .i64 0, .int .i64 0] }),
  (72, { k := .struct [(0, 3), (1, 3), (2, 9), (3, 9), (4, 69), (9, 69), (14, 70), (15, 3), (16, 3)], sz := 17, bys := 248, z := some [.int .i64 0, .int .i64 0, .str [], .str [], .int .i64 0, .int .i64 0, .str [], .nil, .nil, .int .i64 0, .int .i64 0, .str [], .nil, .nil, .nil, .int .i64 0, .int .i64 0] }),
  (73, { k := .fn, sz := 1, bys := 8, z := some [.nilk 1] }),
  (74, { k := .fn, sz := 1, bys := 8, z := some [.nilk 1] }),
  (75, { k := .struct [(0, 3), (1, 3), (2, 3), (3, 9), (4, 9), (5, 69), (10, 70), (11, 69), (16, 3), (17, 69), (22, 3), (23, 27)], sz := 24, bys := 360, z := some [.int .i64 0, .int .i64 0, .int .i64 0, .str [], .str [], .int .i64 0, .int .i64 0, .str [], .nil, .nil, .nil, .int .i64 0, .int .i64 0, .str [], .nil, .nil, .int .i64 0, .int .i64 0, .int .i64 0, .str [], .nil, .nil, .int .i64 0, .nil] }),
  (76, { k := .struct [(0, 3), (1, 3), (2, 3), (3, 9), (4, 9), (5, 69), (10, 70), (11, 69), (16, 3), (17, 69), (22, 3), (23, 27)], sz := 24, bys := 360, z := some [.int .i64 0, .int .i64 0, .int .i64 0, .str [], .str [], .int .i64 0, .int .i64 0, .str [], .nil, .nil, .nil, .int .i64 0, .int .i64 0, .str [], .nil, .nil, .int .i64 0, .int .i64 0, .int .i64 0, .str [], .nil, .nil, .int .i64 0, .nil] }),
  (78, { k := .fn, sz := 1, bys := 8, z := some [.nilk 1] }),
  (79, { k := .fn, sz := 1, bys := 8, z := some [.nilk 1] }),
  (80, { k := .fn, sz := 1, bys := 8, z := some [.nilk 1] }),
  (81, { k := .fn, sz := 1, bys := 8, z := some [.nilk 1] }),
  (82, { k := .fn, sz := 1, bys := 8, z := some [.nilk 1] }),
  (83, { k := .struct [(0, 25)], sz := 1, bys := 24, z := some [.nil] }),
  (84, { k := .struct [(0, 25)], sz := 1, bys := 24, z := some [.nil] }),
  (85, { k := .fn, sz := 1, bys := 8, z := some [.nilk 1] }),
  (86, { k := .fn, sz := 1, bys := 8, z := some [.nilk 1] }),
  (87, { k := .fn, sz := 1, bys := 8, z := some [.nilk 1] }),
  (88, { k := .fn, sz := 1, bys := 8, z := some [.nilk 1] }),
  (89, { k := .fn, sz := 1, bys := 8, z := some [.nilk 1] }),
  (90, { k := .fn, sz := 1, bys := 8, z := some [.nilk 1] }),
  (91, { k := .fn, sz := 1, bys := 8, z := some [.nilk 1] }),
  (92, { k := .struct [(0, 4), (1, 4), (2, 4), (3, 4), (4, 4), (5, 4), (6, 4)], sz := 7, bys := 7, z := some [.bool false, .bool false, .bool false, .bool false, .bool false, .bool false, .bool false] }),
  (93, { k := .struct [(0, 4), (1, 4), (2, 4), (3, 4), (4, 4), (5, 4), (6, 4)], sz := 7, bys := 7, z := some [.bool false, .bool false, .bool false, .bool false, .bool false, .bool false, .bool false], eq := true }),
  (95, { k := .fn, sz := 1, bys := 8, z := some [.nilk 1] }),
  (96, { k := .fn, sz := 1, bys := 8, z := some [.nilk 1] }),
  (97, { k := .fn, sz := 1, bys := 8, z := some [.nilk 1] }),
  (98, { k := .fn, sz := 1, bys := 8, z := some [.nilk 1] }),
  (99, { k := .fn, sz := 1, bys := 8, z := some [.nilk 1] }),
  (100, { k := .fn, sz := 1, bys := 8, z := some [.nilk 1] }),
  (101, { k := .fn, sz := 1, bys := 8, z := some [.nilk 1] }),
  (102, { k := .ptr 3, sz := 1, bys := 8, z := some [.nilp] }),
  (103, { k := .arr 4 102, sz := 4, bys := 32, z := some (List.replicate 4 (.nilp)) }),
  (104, { k := .fn, sz := 1, bys := 8, z := some [.nilk 1] }),
  (105, { k := .ptr 29, sz := 1, bys := 8, z := some [.nilp] }),
  (106, { k := .fn, sz := 1, bys := 8, z := some [.nilk 1] }),
  (107, { k := .ptr 163, sz := 1, bys := 8, z := some [.nilp] }),
  (108, { k := .fn, sz := 1, bys := 8, z := some [.nilk 1] }),
  (109, { k := .fn, sz := 1, bys := 8, z := some [.nilk 1] }),
  (110, { k := .fn, sz := 1, bys := 8, z := some [.nilk 1] }),
  (111, { k := .fn, sz := 1, bys := 8, z := some [.nilk 1] }),
  (112, { k := .slice 3, sz := 1, bys := 24, z := some [.nil] }),
  (113, { k := .slice 4, sz := 1, bys := 24, z := some [.nil] }),
  (114, { k := .fn, sz := 1, bys := 8, z := some [.nilk 1] }),
  (115, { k := .ptr 117, sz := 1, bys := 8, z := some [.nilp] }),
  (116, { k := .struct [(0, 27), (1, 4)], sz := 2, bys := 32, z := some [.nil, .bool false] }),
  (117, { k := .struct [(0, 27), (1, 4)], sz := 2, bys := 32, z := some [.nil, .bool false] }),
  (118, { k := .fn, sz := 1, bys := 8, z := some [.nilk 1] }),
  (119, { k := .fn, sz := 1, bys := 8, z := some [.nilk 1] }),
  (120, { k := .fn, sz := 1, bys := 8, z := some [.nilk 1] }),
  (121, { k := .fn, sz := 1, bys := 8, z := some [.nilk 1] }),
  (122, { k := .ptr 250, sz := 1, bys := 8, z := some [.nilp] }),
  (123, { k := .struct [(0, 62), (3, 3), (4, 3), (5, 4), (6, 4), (7, 27)], sz := 8, bys := 96, z := some [.str [], .nil, .int .i64 0, .int .i64 0, .int .i64 0, .bool false, .bool false, .nil] }),
  (124, { k := .struct [(0, 62), (3, 3), (4, 3), (5, 4), (6, 4), (7, 27)], sz := 8, bys := 96, z := some [.str [], .nil, .int .i64 0, .int .i64 0, .int .i64 0, .bool false, .bool false, .nil] }),
  (125, { k := .fn, sz := 1, bys := 8, z := some [.nilk 1] }),
  (127, { k := .fn, sz := 1, bys := 8, z := some [.nilk 1] }),
  (128, { k := .fn, sz := 1, bys := 8, z := some [.nilk 1] }),
  (129, { k := .fn, sz := 1, bys := 8, z := some [.nilk 1] }),
  (130, { k := .fn, sz := 1, bys := 8, z := some [.nilk 1] }),
  (131, { k := .ptr 186, sz := 1, bys := 8, z := some [.nilp] }),
  (132, { k := .fn, sz := 1, bys := 8, z := some [.nilk 1] }),
  (133, { k := .fn, sz := 1, bys := 8, z := some [.nilk 1] }),
  (134, { k := .fn, sz := 1, bys := 8, z := some [.nilk 1] }),
  (135, { k := .fn, sz := 1, bys := 8, z := some [.nilk 1] }),
  (136, { k := .fn, sz := 1, bys := 8, z := some [.nilk 1] }),
  (137, { k := .fn, sz := 1, bys := 8, z := some [.nilk 1] }),
  (138, { k := .fn, sz := 1, bys := 8, z := some [.nilk 1] }),
  (139, { k := .struct [(0, 3), (1, 3), (2, 3)], sz := 3, bys := 24, z := some [.int .i64 0, .int .i64 0, .int .i64 0] }),
  (140, { k := .struct [(0, 3), (1, 3), (2, 3)], sz := 3, bys := 24, z := some [.int .i64 0, .int .i64 0, .int .i64 0], eq := true }),
  (141, { k := .fn, sz := 1, bys := 8, z := some [.nilk 1] }),
  (143, { k := .fn, sz := 1, bys := 8, z := some [.nilk 1] }),
  (144, { k := .fn, sz := 1, bys := 8, z := some [.nilk 1] }),
  (145, { k := .fn, sz := 1, bys := 8, z := some [.nilk 1] }),
  (147, { k := .fn, sz := 1, bys := 8, z := some [.nilk 1] }),
  (148, { k := .fn, sz := 1, bys := 8, z := some [.nilk 1] }),
  (149, { k := .fn, sz := 1, bys := 8, z := some [.nilk 1] }),
  (150, { k := .fn, sz := 1, bys := 8, z := some [.nilk 1] }),
  (151, { k := .fn, sz := 1, bys := 8, z := some [.nilk 1] }),
  (152, { k := .fn, sz := 1, bys := 8, z := some [.nilk 1] }),
  (153, { k := .fn, sz := 1, bys := 8, z := some [.nilk 1] }),
  (155, { k := .fn, sz := 1, bys := 8, z := some [.nilk 1] }),
  (156, { k := .fn, sz := 1, bys := 8, z := some [.nilk 1] }),
  (157, { k := .fn, sz := 1, bys := 8, z := some [.nilk 1] }),
  (158, { k := .fn, sz := 1, bys := 8, z := some [.nilk 1] }),
  (159, { k := .fn, sz := 1, bys := 8, z := some [.nilk 1] }),
  (160, { k := .fn, sz := 1, bys := 8, z := some [.nilk 1] }),
  (161, { k := .fn, sz := 1, bys := 8, z := some [.nilk 1] }),
  (162, { k := .struct [(0, 27), (1, 4)], sz := 2, bys := 32, z := some [.nil, .bool false] }),
  (163, { k := .struct [(0, 27), (1, 4)], sz := 2, bys := 32, z := some [.nil, .bool false] }),
  (164, { k := .int .u64, sz := 1, bys := 8, z := some [.int .u64 0] }),
  (166, { k := .fn, sz := 1, bys := 8, z := some [.nilk 1] }),
  (167, { k := .fn, sz := 1, bys := 8, z := some [.nilk 1] }),
  (168, { k := .fn, sz := 1, bys := 8, z := some [.nilk 1] }),
  (169, { k := .fn, sz := 1, bys := 8, z := some [.nilk 1] }),
  (170, { k := .fn, sz := 1, bys := 8, z := some [.nilk 1] }),
  (171, { k := .fn, sz := 1, bys := 8, z := some [.nilk 1] }),
  (172, { k := .fn, sz := 1, bys := 8, z := some [.nilk 1] }),
  (173, { k := .fn, sz := 1, bys := 8, z := some [.nilk 1] }),
  (174, { k := .fn, sz := 1, bys := 8, z := some [.nilk 1] }),
  (176, { k := .fn, sz := 1, bys := 8, z := some [.nilk 1] }),
  (177, { k := .fn, sz := 1, bys := 8, z := some [.nilk 1] }),
  (178, { k := .fn, sz := 1, bys := 8, z := some [.nilk 1] }),
  (180, { k := .fn, sz := 1, bys := 8, z := some [.nilk 1] }),
  (181, { k := .fn, sz := 1, bys := 8, z := some [.nilk 1] }),
  (182, { k := .struct [(0, 3), (1, 60), (2, 69), (7, 3)], sz := 8, bys := 120, z := some [.int .i64 0, .nil, .int .i64 0, .int .i64 0, .str [], .nil, .nil, .int .i64 0] }),
  (183, { k := .struct [(0, 3), (1, 60), (2, 69), (7, 3)], sz := 8, bys := 120, z := some [.int .i64 0, .nil, .int .i64 0, .int .i64 0, .str [], .nil, .nil, .int .i64 0] }),
  (184, { k := .map 9 187, sz := 1, bys := 8, z := some [.nilk 0] }),
  (185, { k := .struct [(0, 184)], sz := 1, bys := 8, z := some [.nilk 0] }),
  (186, { k := .struct [(0, 184)], sz := 1, bys := 8, z := some [.nilk 0] }),
  (187, { k := .slice 189, sz := 1, bys := 24, z := some [.nil] }),
  (188, { k := .struct [(0, 69), (5, 69)], sz := 10, bys := 160, z := some [.int .i64 0, .int .i64 0, .str [], .nil, .nil, .int .i64 0, .int .i64 0, .str [], .nil, .nil] }),
  (189, { k := .struct [(0, 69), (5, 69)], sz := 10, bys := 160, z := some [.int .i64 0, .int .i64 0, .str [], .nil, .nil, .int .i64 0, .int .i64 0, .str [], .nil, .nil] }),
  (191, { k := .fn, sz := 1, bys := 8, z := some [.nilk 1] }),
  (192, { k := .fn, sz := 1, bys := 8, z := some [.nilk 1] }),
  (193, { k := .fn, sz := 1, bys := 8, z := some [.nilk 1] }),
  (194, { k := .fn, sz := 1, bys := 8, z := some [.nilk 1] }),
  (195, { k := .struct [(0, 3), (1, 3), (2, 3), (3, 9), (4, 9), (5, 3), (6, 3), (7, 9)], sz := 8, bys := 88, z := some [.int .i64 0, .int .i64 0, .int .i64 0, .str [], .str [], .int .i64 0, .int .i64 0, .str []], eq := true }),
  (196, { k := .struct [(0, 3), (1, 3), (2, 3), (3, 9), (4, 9), (5, 3), (6, 3), (7, 9)], sz := 8, bys := 88, z := some [.int .i64 0, .int .i64 0, .int .i64 0, .str [], .str [], .int .i64 0, .int .i64 0, .str []], eq := true }),
  (197, { k := .fn, sz := 1, bys := 8, z := some [.nilk 1] }),
  (198, { k := .fn, sz := 1, bys := 8, z := some [.nilk 1] }),
  (199, { k := .fn, sz := 1, bys := 8, z := some [.nilk 1] }),
  (201, { k := .fn, sz := 1, bys := 8, z := some [.nilk 1] }),
  (202, { k := .fn, sz := 1, bys := 8, z := some [.nilk 1] }),
  (203, { k := .int .u64, sz := 1, bys := 8, z := some [.int .u64 0] }),
  (204, { k := .fn, sz := 1, bys := 8, z := some [.nilk 1] }),
  (205, { k := .fn, sz := 1, bys := 8, z := some [.nilk 1] }),
  (206, { k := .fn, sz := 1, bys := 8, z := some [.nilk 1] }),
  (207, { k := .fn, sz := 1, bys := 8, z := some [.nilk 1] }),
  (208, { k := .fn, sz := 1, bys := 8, z := some [.nilk 1] }),
  (209, { k := .fn, sz := 1, bys := 8, z := some [.nilk 1] }),
  (210, { k := .fn, sz := 1, bys := 8, z := some [.nilk 1] }),
  (211, { k := .fn, sz := 1, bys := 8, z := some [.nilk 1] }),
  (212, { k := .fn, sz := 1, bys := 8, z := some [.nilk 1] }),
  (213, { k := .fn, sz := 1, bys := 8, z := some [.nilk 1] }),
  (214, { k := .fn, sz := 1, bys := 8, z := some [.nilk 1] }),
  (215, { k := .fn, sz := 1, bys := 8, z := some [.nilk 1] }),
  (216, { k := .fn, sz := 1, bys := 8, z := some [.nilk 1] }),
  (217, { k := .fn, sz := 1, bys := 8, z := some [.nilk 1] }),
  (218, { k := .fn, sz := 1, bys := 8, z := some [.nilk 1] }),
  (219, { k := .fn, sz := 1, bys := 8, z := some [.nilk 1] }),
  (221, { k := .fn, sz := 1, bys := 8, z := some [.nilk 1] }),
  (222, { k := .fn, sz := 1, bys := 8, z := some [.nilk 1] }),
  (225, { k := .fn, sz := 1, bys := 8, z := some [.nilk 1] }),
  (227, { k := .fn, sz := 1, bys := 8, z := some [.nilk 1] }),
  (228, { k := .fn, sz := 1, bys := 8, z := some [.nilk 1] }),
  (229, { k := .fn, sz := 1, bys := 8, z := some [.nilk 1] }),
  (230, { k := .fn, sz := 1, bys := 8, z := some [.nilk 1] }),
  (231, { k := .fn, sz := 1, bys := 8, z := some [.nilk 1] }),
  (232, { k := .fn, sz := 1, bys := 8, z := some [.nilk 1] }),
  (233, { k := .fn, sz := 1, bys := 8, z := some [.nilk 1] }),
  (234, { k := .fn, sz := 1, bys := 8, z := some [.nilk 1] }),
  (235, { k := .arr 2 3, sz := 2, bys := 16, z := some (List.replicate 2 (.int .i64 0)) }),
  (236, { k := .fn, sz := 1, bys := 8, z := some [.nilk 1] }),
  (237, { k := .int .u32, sz := 1, bys := 4, z := some [.int .u32 0] }),
  (238, { k := .fn, sz := 1, bys := 8, z := some [.nilk 1] }),
  (239, { k := .fn, sz := 1, bys := 8, z := some [.nilk 1] }),
  (240, { k := .fn, sz := 1, bys := 8, z := some [.nilk 1] }),
  (241, { k := .fn, sz := 1, bys := 8, z := some [.nilk 1] }),
  (242, { k := .fn, sz := 1, bys := 8, z := some [.nilk 1] }),
  (243, { k := .fn, sz := 1, bys := 8, z := some [.nilk 1] }),
  (244, { k := .fn, sz := 1, bys := 8, z := some [.nilk 1] }),
  (245, { k := .fn, sz := 1, bys := 8, z := some [.nilk 1] }),
  (246, { k := .fn, sz := 1, bys := 8, z := some [.nilk 1] }),
  (247, { k := .fn, sz := 1, bys := 8, z := some [.nilk 1] }),
  (248, { k := .slice 252, sz := 1, bys := 24, z := some [.nil] }),
  (249, { k := .struct [(0, 3), (1, 248), (2, 3), (3, 3)], sz := 4, bys := 48, z := some [.int .i64 0, .nil, .int .i64 0, .int .i64 0] }),
  (250, { k := .struct [(0, 3), (1, 248), (2, 3), (3, 3)], sz := 4, bys := 48, z := some [.int .i64 0, .nil, .int .i64 0, .int .i64 0] }),
  (251, { k := .struct [(0, 4), (1, 69)], sz := 6, bys := 88, z := some [.bool false, .int .i64 0, .int .i64 0, .str [], .nil, .nil] }),
  (252, { k := .struct [(0, 4), (1, 69)], sz := 6, bys := 88, z := some [.bool false, .int .i64 0, .int .i64 0, .str [], .nil, .nil] }),
  (253, { k := .fn, sz := 1, bys := 8, z := some [.nilk 1] }),
  (254, { k := .fn, sz := 1, bys := 8, z := some [.nilk 1] }),
  (255, { k := .fn, sz := 1, bys := 8, z := some [.nilk 1] }),
  (256, { k := .fn, sz := 1, bys := 8, z := some [.nilk 1] }),
  (257, { k := .fn, sz := 1, bys := 8, z := some [.nilk 1] }),
  (258, { k := .fn, sz := 1, bys := 8, z := some [.nilk 1] }),
  (259, { k := .fn, sz := 1, bys := 8, z := some [.nilk 1] }),
  (260, { k := .fn, sz := 1, bys := 8, z := some [.nilk 1] }),
  (261, { k := .fn, sz := 1, bys := 8, z := some [.nilk 1] }),
  (262, { k := .fn, sz := 1, bys := 8, z := some [.nilk 1] }),
  (263, { k := .fn, sz := 1, bys := 8, z := some [.nilk 1] }),
  (264, { k := .fn, sz := 1, bys := 8, z := some [.nilk 1] }),
  (265, { k := .arr 256 4, sz := 256, bys := 256, z := some (List.replicate 256 (.bool false)) }),
  (266, { k := .arr 256 4, sz := 256, bys := 256, z := some (List.replicate 256 (.bool false)) }),
  (268, { k := .fn, sz := 1, bys := 8, z := some [.nilk 1] }),
  (269, { k := .fn, sz := 1, bys := 8, z := some [.nilk 1] }),
  (270, { k := .fn, sz := 1, bys := 8, z := some [.nilk 1] }),
  (271, { k := .fn, sz := 1, bys := 8, z := some [.nilk 1] }),
  (272, { k := .fn, sz := 1, bys := 8, z := some [.nilk 1] }),
  (273, { k := .map 9 4, sz := 1, bys := 8, z := some [.nilk 0] }),
  (274, { k := .fn, sz := 1, bys := 8, z := some [.nilk 1] }),
  (275, { k := .fn, sz := 1, bys := 8, z := some [.nilk 1] }),
  (276, { k := .fn, sz := 1, bys := 8, z := some [.nilk 1] }),
  (277, { k := .fn, sz := 1, bys := 8, z := some [.nilk 1] }),
  (278, { k := .fn, sz := 1, bys := 8, z := some [.nilk 1] }),
  (279, { k := .fn, sz := 1, bys := 8, z := some [.nilk 1] }),
  (280, { k := .fn, sz := 1, bys := 8, z := some [.nilk 1] }),
  (281, { k := .fn, sz := 1, bys := 8, z := some [.nilk 1] }),
  (282, { k := .fn, sz := 1, bys := 8, z := some [.nilk 1] }),
  (283, { k := .fn, sz := 1, bys := 8, z := some [.nilk 1] }),
  (284, { k := .ptr 266, sz := 1, bys := 8, z := some [.nilp] }),
  (285, { k := .fn, sz := 1, bys := 8, z := some [.nilk 1] }),
  (286, { k := .fn, sz := 1, bys := 8, z := some [.nilk 1] }),
  (287, { k := .fn, sz := 1, bys := 8, z := some [.nilk 1] }),
  (288, { k := .fn, sz := 1, bys := 8, z := some [.nilk 1] }),
  (289, { k := .fn, sz := 1, bys := 8, z := some [.nilk 1] }),
  (290, { k := .fn, sz := 1, bys := 8, z := some [.nilk 1] }),
  (291, { k := .fn, sz := 1, bys := 8, z := some [.nilk 1] }),
  (292, { k := .fn, sz := 1, bys := 8, z := some [.nilk 1] }),
  (293, { k := .fn, sz := 1, bys := 8, z := some [.nilk 1] }),
  (295, { k := .fn, sz := 1, bys := 8, z := some [.nilk 1] }),
  (296, { k := .fn, sz := 1, bys := 8, z := some [.nilk 1] }),
  (297, { k := .struct [(0, 17), (1, 17), (2, 17), (3, 9)], sz := 4, bys := 40, z := some [.nilp, .nilp, .nilp, .str []] }),
  (298, { k := .struct [(0, 17), (1, 17), (2, 17), (3, 9)], sz := 4, bys := 40, z := some [.nilp, .nilp, .nilp, .str []] }),
  (299, { k := .arr 0 16, sz := 0, bys := 0, z := some (List.replicate 0 (.nilp)) }),
  (300, { k := .struct [(0, 299)], sz := 0, bys := 0, z := some [] }),
  (301, { k := .struct [(0, 299)], sz := 0, bys := 0, z := some [] }),
  (302, { k := .int .u8, sz := 1, bys := 1, z := some [.int .u8 0] }),
  (303, { k := .int .u8, sz := 1, bys := 1, z := some [.int .u8 0] }),
  (304, { k := .fn, sz := 1, bys := 8, z := some [.nilk 1] }),
  (305, { k := .ptr 5, sz := 1, bys := 8, z := some [.nilp] }),
  (306, { k := .int .i32, sz := 1, bys := 4, z := some [.int .i32 0] }),
  (307, { k := .int .i32, sz := 1, bys := 4, z := some [.int .i32 0] }),
  (308, { k := .struct [(0, 12), (1, 12), (2, 237), (3, 302), (4, 5), (5, 5), (6, 303), (7, 304), (8, 305), (9, 306), (10, 307)], sz := 11, bys := 48, z := some [.int .u64 0, .int .u64 0, .int .u32 0, .int .u8 0, .int .u8 0, .int .u8 0, .int .u8 0, .nilk 1, .nilp, .int .i32 0, .int .i32 0] }),
  (309, { k := .struct [(0, 12), (1, 12), (2, 237), (3, 302), (4, 5), (5, 5), (6, 303), (7, 304), (8, 305), (9, 306), (10, 307)], sz := 11, bys := 48, z := some [.int .u64 0, .int .u64 0, .int .u32 0, .int .u8 0, .int .u8 0, .int .u8 0, .int .u8 0, .nilk 1, .nilp, .int .i32 0, .int .i32 0] })]
def Θ : Tab := fun t => (tl.find? fun p => Nat.beq p.1 t).map (·.2)
theorem th3 : Θ 3 = some { k := .int .i64, sz := 1, bys := 8, z := some [.int .i64 0] } := rfl
theorem th26 : Θ 26 = some { k := .slice 72, sz := 1, bys := 24, z := some [.nil] } := rfl
theorem tab_of {P : Program} : ∀ (l : List (Nat × TI)), (∀ p ∈ l, TOk P p.1 p.2) → TabOk P (fun t => (l.find? fun p => Nat.beq p.1 t).map (·.2)) := by
  intro l h t i hi
  obtain ⟨p, hp, rfl⟩ := Option.map_eq_some_iff.1 hi
  have h1 := List.mem_of_find?_eq_some hp
  have h2 := List.find?_some hp
  have h3 : p.1 = t := Nat.eq_of_beq_eq_true h2
  rw [← h3]
  exact h p h1
theorem tok1 : TOk Tryz.prog 1 { k := .fn, sz := 1, bys := 8, z := some [.nilk 1] } := ⟨by kernel_rfl, by kernel_rfl, fun l h => by injection h with h; subst h; exact ⟨by kernel_rfl, by kernel_rfl, by decide⟩, fun h => by cases h⟩
theorem tok2 : TOk Tryz.prog 2 { k := .int .i64, sz := 1, bys := 8, z := some [.int .i64 0] } := ⟨by kernel_rfl, by kernel_rfl, fun l h => by injection h with h; subst h; exact ⟨by kernel_rfl, by kernel_rfl, by decide⟩, fun h => by cases h⟩
theorem tok3 : TOk Tryz.prog 3 { k := .int .i64, sz := 1, bys := 8, z := some [.int .i64 0] } := ⟨by kernel_rfl, by kernel_rfl, fun l h => by injection h with h; subst h; exact ⟨by kernel_rfl, by kernel_rfl, by decide⟩, fun h => by cases h⟩
theorem tok4 : TOk Tryz.prog 4 { k := .bool, sz := 1, bys := 1, z := some [.bool false] } := ⟨by kernel_rfl, by kernel_rfl, fun l h => by injection h with h; subst h; exact ⟨by kernel_rfl, by kernel_rfl, by decide⟩, fun h => by cases h⟩
theorem tok5 : TOk Tryz.prog 5 { k := .int .u8, sz := 1, bys := 1, z := some [.int .u8 0] } := ⟨by kernel_rfl, by kernel_rfl, fun l h => by injection h with h; subst h; exact ⟨by kernel_rfl, by kernel_rfl, by decide⟩, fun h => by cases h⟩
theorem tok6 : TOk Tryz.prog 6 { k := .int .u8, sz := 1, bys := 1, z := some [.int .u8 0] } := ⟨by kernel_rfl, by kernel_rfl, fun l h => by injection h with h; subst h; exact ⟨by kernel_rfl, by kernel_rfl, by decide⟩, fun h => by cases h⟩
theorem tok7 : TOk Tryz.prog 7 { k := .struct [(0, 2), (1, 3), (2, 4), (3, 6)], sz := 4, bys := 24, z := some [.int .i64 0, .int .i64 0, .bool false, .int .u8 0] } := ⟨by kernel_rfl, by kernel_rfl, fun l h => by injection h with h; subst h; exact ⟨by kernel_rfl, by kernel_rfl, by decide⟩, fun h => by cases h⟩
theorem tok8 : TOk Tryz.prog 8 { k := .struct [(0, 2), (1, 3), (2, 4), (3, 6)], sz := 4, bys := 24, z := some [.int .i64 0, .int .i64 0, .bool false, .int .u8 0] } := ⟨by kernel_rfl, by kernel_rfl, fun l h => by injection h with h; subst h; exact ⟨by kernel_rfl, by kernel_rfl, by decide⟩, fun h => by cases h⟩
theorem tok9 : TOk Tryz.prog 9 { k := .str, sz := 1, bys := 16, z := some [.str []] } := ⟨by kernel_rfl, by kernel_rfl, fun l h => by injection h with h; subst h; exact ⟨by kernel_rfl, by kernel_rfl, by decide⟩, fun h => by cases h⟩
theorem tok10 : TOk Tryz.prog 10 { k := .str, sz := 1, bys := 16, z := some [.str []] } := ⟨by kernel_rfl, by kernel_rfl, fun l h => by injection h with h; subst h; exact ⟨by kernel_rfl, by kernel_rfl, by decide⟩, fun h => by cases h⟩
theorem tok11 : TOk Tryz.prog 11 { k := .str, sz := 1, bys := 16, z := some [.str []] } := ⟨by kernel_rfl, by kernel_rfl, fun l h => by injection h with h; subst h; exact ⟨by kernel_rfl, by kernel_rfl, by decide⟩, fun h => by cases h⟩
theorem tok12 : TOk Tryz.prog 12 { k := .int .u64, sz := 1, bys := 8, z := some [.int .u64 0] } := ⟨by kernel_rfl, by kernel_rfl, fun l h => by injection h with h; subst h; exact ⟨by kernel_rfl, by kernel_rfl, by decide⟩, fun h => by cases h⟩
theorem tok13 : TOk Tryz.prog 13 { k := .struct [(0, 9), (1, 12)], sz := 2, bys := 24, z := some [.str [], .int .u64 0] } := ⟨by kernel_rfl, by kernel_rfl, fun l h => by injection h with h; subst h; exact ⟨by kernel_rfl, by kernel_rfl, by decide⟩, fun h => by cases h⟩
theorem tok14 : TOk Tryz.prog 14 { k := .struct [(0, 9), (1, 12)], sz := 2, bys := 24, z := some [.str [], .int .u64 0] } := ⟨by kernel_rfl, by kernel_rfl, fun l h => by injection h with h; subst h; exact ⟨by kernel_rfl, by kernel_rfl, by decide⟩, fun h => by cases h⟩
theorem tok15 : TOk Tryz.prog 15 { k := .ptr 298, sz := 1, bys := 8, z := some [.nilp] } := ⟨by kernel_rfl, by kernel_rfl, fun l h => by injection h with h; subst h; exact ⟨by kernel_rfl, by kernel_rfl, by decide⟩, fun h => by cases h⟩
theorem tok16 : TOk Tryz.prog 16 { k := .ptr 301, sz := 1, bys := 8, z := some [.nilp] } := ⟨by kernel_rfl, by kernel_rfl, fun l h => by injection h with h; subst h; exact ⟨by kernel_rfl, by kernel_rfl, by decide⟩, fun h => by cases h⟩
theorem tok17 : TOk Tryz.prog 17 { k := .ptr 309, sz := 1, bys := 8, z := some [.nilp] } := ⟨by kernel_rfl, by kernel_rfl, fun l h => by injection h with h; subst h; exact ⟨by kernel_rfl, by kernel_rfl, by decide⟩, fun h => by cases h⟩
theorem tok18 : TOk Tryz.prog 18 { k := .struct [(0, 17)], sz := 1, bys := 8, z := some [.nilp] } := ⟨by kernel_rfl, by kernel_rfl, fun l h => by injection h with h; subst h; exact ⟨by kernel_rfl, by kernel_rfl, by decide⟩, fun h => by cases h⟩
theorem tok19 : TOk Tryz.prog 19 { k := .struct [(0, 17)], sz := 1, bys := 8, z := some [.nilp] } := ⟨by kernel_rfl, by kernel_rfl, fun l h => by injection h with h; subst h; exact ⟨by kernel_rfl, by kernel_rfl, by decide⟩, fun h => by cases h⟩
theorem tok21 : TOk Tryz.prog 21 { k := .int .i32, sz := 1, bys := 4, z := some [.int .i32 0] } := ⟨by kernel_rfl, by kernel_rfl, fun l h => by injection h with h; subst h; exact ⟨by kernel_rfl, by kernel_rfl, by decide⟩, fun h => by cases h⟩
theorem tok22 : TOk Tryz.prog 22 { k := .fn, sz := 1, bys := 8, z := some [.nilk 1] } := ⟨by kernel_rfl, by kernel_rfl, fun l h => by injection h with h; subst h; exact ⟨by kernel_rfl, by kernel_rfl, by decide⟩, fun h => by cases h⟩
theorem tok23 : TOk Tryz.prog 23 { k := .ptr 84, sz := 1, bys := 8, z := some [.nilp] } := ⟨by kernel_rfl, by kernel_rfl, fun l h => by injection h with h; subst h; exact ⟨by kernel_rfl, by kernel_rfl, by decide⟩, fun h => by cases h⟩
theorem tok24 : TOk Tryz.prog 24 { k := .fn, sz := 1, bys := 8, z := some [.nilk 1] } := ⟨by kernel_rfl, by kernel_rfl, fun l h => by injection h with h; subst h; exact ⟨by kernel_rfl, by kernel_rfl, by decide⟩, fun h => by cases h⟩
theorem tok25 : TOk Tryz.prog 25 { k := .slice 29, sz := 1, bys := 24, z := some [.nil] } := ⟨by kernel_rfl, by kernel_rfl, fun l h => by injection h with h; subst h; exact ⟨by kernel_rfl, by kernel_rfl, by decide⟩, fun h => by cases h⟩
theorem tok26 : TOk Tryz.prog 26 { k := .slice 72, sz := 1, bys := 24, z := some [.nil] } := ⟨by kernel_rfl, by kernel_rfl, fun l h => by injection h with h; subst h; exact ⟨by kernel_rfl, by kernel_rfl, by decide⟩, fun h => by cases h⟩
theorem tok27 : TOk Tryz.prog 27 { k := .slice 5, sz := 1, bys := 24, z := some [.nil] } := ⟨by kernel_rfl, by kernel_rfl, fun l h => by injection h with h; subst h; exact ⟨by kernel_rfl, by kernel_rfl, by decide⟩, fun h => by cases h⟩
theorem tok28 : TOk Tryz.prog 28 { k := .struct [(0, 3), (1, 3), (2, 3), (3, 3), (4, 3), (5, 3), (6, 3), (7, 3), (8, 4), (9, 26), (10, 27)], sz := 11, bys := 120, z := some [.int .i64 0, .int .i64 0, .int .i64 0, .int .i64 0, .int .i64 0, .int .i64 0, .int .i64 0, .int .i64 0, .bool false, .nil, .nil] } := ⟨by kernel_rfl, by kernel_rfl, fun l h => by injection h with h; subst h; exact ⟨by kernel_rfl, by kernel_rfl, by decide⟩, fun h => by cases h⟩
theorem tok29 : TOk Tryz.prog 29 { k := .struct [(0, 3), (1, 3), (2, 3), (3, 3), (4, 3), (5, 3), (6, 3), (7, 3), (8, 4), (9, 26), (10, 27)], sz := 11, bys := 120, z := some [.int .i64 0, .int .i64 0, .int .i64 0, .int .i64 0, .int .i64 0, .int .i64 0, .int .i64 0, .int .i64 0, .bool false, .nil, .nil] } := ⟨by kernel_rfl, by kernel_rfl, fun l h => by injection h with h; subst h; exact ⟨by kernel_rfl, by kernel_rfl, by decide⟩, fun h => by cases h⟩
theorem tok30 : TOk Tryz.prog 30 { k := .fn, sz := 1, bys := 8, z := some [.nilk 1] } := ⟨by kernel_rfl, by kernel_rfl, fun l h => by injection h with h; subst h; exact ⟨by kernel_rfl, by kernel_rfl, by decide⟩, fun h => by cases h⟩
theorem tok31 : TOk Tryz.prog 31 { k := .int .i64, sz := 1, bys := 8, z := some [.int .i64 0] } := ⟨by kernel_rfl, by kernel_rfl, fun l h => by injection h with h; subst h; exact ⟨by kernel_rfl, by kernel_rfl, by decide⟩, fun h => by cases h⟩
theorem tok33 : TOk Tryz.prog 33 { k := .fn, sz := 1, bys := 8, z := some [.nilk 1] } := ⟨by kernel_rfl, by kernel_rfl, fun l h => by injection h with h; subst h; exact ⟨by kernel_rfl, by kernel_rfl, by decide⟩, fun h => by cases h⟩
theorem tok34 : TOk Tryz.prog 34 { k := .fn, sz := 1, bys := 8, z := some [.nilk 1] } := ⟨by kernel_rfl, by kernel_rfl, fun l h => by injection h with h; subst h; exact ⟨by kernel_rfl, by kernel_rfl, by decide⟩, fun h => by cases h⟩
theorem tok36 : TOk Tryz.prog 36 { k := .fn, sz := 1, bys := 8, z := some [.nilk 1] } := ⟨by kernel_rfl, by kernel_rfl, fun l h => by injection h with h; subst h; exact ⟨by kernel_rfl, by kernel_rfl, by decide⟩, fun h => by cases h⟩
theorem tok37 : TOk Tryz.prog 37 { k := .fn, sz := 1, bys := 8, z := some [.nilk 1] } := ⟨by kernel_rfl, by kernel_rfl, fun l h => by injection h with h; subst h; exact ⟨by kernel_rfl, by kernel_rfl, by decide⟩, fun h => by cases h⟩
theorem tok38 : TOk Tryz.prog 38 { k := .struct [(0, 3), (1, 25), (2, 3)], sz := 3, bys := 40, z := some [.int .i64 0, .nil, .int .i64 0] } := ⟨by kernel_rfl, by kernel_rfl, fun l h => by injection h with h; subst h; exact ⟨by kernel_rfl, by kernel_rfl, by decide⟩, fun h => by cases h⟩
theorem tok39 : TOk Tryz.prog 39 { k := .struct [(0, 3), (1, 25), (2, 3)], sz := 3, bys := 40, z := some [.int .i64 0, .nil, .int .i64 0] } := ⟨by kernel_rfl, by kernel_rfl, fun l h => by injection h with h; subst h; exact ⟨by kernel_rfl, by kernel_rfl, by decide⟩, fun h => by cases h⟩
theorem tok40 : TOk Tryz.prog 40 { k := .fn, sz := 1, bys := 8, z := some [.nilk 1] } := ⟨by kernel_rfl, by kernel_rfl, fun l h => by injection h with h; subst h; exact ⟨by kernel_rfl, by kernel_rfl, by decide⟩, fun h => by cases h⟩
theorem tok41 : TOk Tryz.prog 41 { k := .fn, sz := 1, bys := 8, z := some [.nilk 1] } := ⟨by kernel_rfl, by kernel_rfl, fun l h => by injection h with h; subst h; exact ⟨by kernel_rfl, by kernel_rfl, by decide⟩, fun h => by cases h⟩
theorem tok42 : TOk Tryz.prog 42 { k := .fn, sz := 1, bys := 8, z := some [.nilk 1] } := ⟨by kernel_rfl, by kernel_rfl, fun l h => by injection h with h; subst h; exact ⟨by kernel_rfl, by kernel_rfl, by decide⟩, fun h => by cases h⟩
theorem tok43 : TOk Tryz.prog 43 { k := .fn, sz := 1, bys := 8, z := some [.nilk 1] } := ⟨by kernel_rfl, by kernel_rfl, fun l h => by injection h with h; subst h; exact ⟨by kernel_rfl, by kernel_rfl, by decide⟩, fun h => by cases h⟩
theorem tok44 : TOk Tryz.prog 44 { k := .fn, sz := 1, bys := 8, z := some [.nilk 1] } := ⟨by kernel_rfl, by kernel_rfl, fun l h => by injection h with h; subst h; exact ⟨by kernel_rfl, by kernel_rfl, by decide⟩, fun h => by cases h⟩
theorem tok45 : TOk Tryz.prog 45 { k := .fn, sz := 1, bys := 8, z := some [.nilk 1] } := ⟨by kernel_rfl, by kernel_rfl, fun l h => by injection h with h; subst h; exact ⟨by kernel_rfl, by kernel_rfl, by decide⟩, fun h => by cases h⟩
theorem tok46 : TOk Tryz.prog 46 { k := .fn, sz := 1, bys := 8, z := some [.nilk 1] } := ⟨by kernel_rfl, by kernel_rfl, fun l h => by injection h with h; subst h; exact ⟨by kernel_rfl, by kernel_rfl, by decide⟩, fun h => by cases h⟩
theorem tok47 : TOk Tryz.prog 47 { k := .fn, sz := 1, bys := 8, z := some [.nilk 1] } := ⟨by kernel_rfl, by kernel_rfl, fun l h => by injection h with h; subst h; exact ⟨by kernel_rfl, by kernel_rfl, by decide⟩, fun h => by cases h⟩
theorem tok48 : TOk Tryz.prog 48 { k := .fn, sz := 1, bys := 8, z := some [.nilk 1] } := ⟨by kernel_rfl, by kernel_rfl, fun l h => by injection h with h; subst h; exact ⟨by kernel_rfl, by kernel_rfl, by decide⟩, fun h => by cases h⟩
theorem tok50 : TOk Tryz.prog 50 { k := .fn, sz := 1, bys := 8, z := some [.nilk 1] } := ⟨by kernel_rfl, by kernel_rfl, fun l h => by injection h with h; subst h; exact ⟨by kernel_rfl, by kernel_rfl, by decide⟩, fun h => by cases h⟩
theorem tok51 : TOk Tryz.prog 51 { k := .fn, sz := 1, bys := 8, z := some [.nilk 1] } := ⟨by kernel_rfl, by kernel_rfl, fun l h => by injection h with h; subst h; exact ⟨by kernel_rfl, by kernel_rfl, by decide⟩, fun h => by cases h⟩
theorem tok52 : TOk Tryz.prog 52 { k := .fn, sz := 1, bys := 8, z := some [.nilk 1] } := ⟨by kernel_rfl, by kernel_rfl, fun l h => by injection h with h; subst h; exact ⟨by kernel_rfl, by kernel_rfl, by decide⟩, fun h => by cases h⟩
theorem tok54 : TOk Tryz.prog 54 { k := .fn, sz := 1, bys := 8, z := some [.nilk 1] } := ⟨by kernel_rfl, by kernel_rfl, fun l h => by injection h with h; subst h; exact ⟨by kernel_rfl, by kernel_rfl, by decide⟩, fun h => by cases h⟩
theorem tok55 : TOk Tryz.prog 55 { k := .fn, sz := 1, bys := 8, z := some [.nilk 1] } := ⟨by kernel_rfl, by kernel_rfl, fun l h => by injection h with h; subst h; exact ⟨by kernel_rfl, by kernel_rfl, by decide⟩, fun h => by cases h⟩
theorem tok56 : TOk Tryz.prog 56 { k := .ptr 124, sz := 1, bys := 8, z := some [.nilp] } := ⟨by kernel_rfl, by kernel_rfl, fun l h => by injection h with h; subst h; exact ⟨by kernel_rfl, by kernel_rfl, by decide⟩, fun h => by cases h⟩
theorem tok57 : TOk Tryz.prog 57 { k := .slice 76, sz := 1, bys := 24, z := some [.nil] } := ⟨by kernel_rfl, by kernel_rfl, fun l h => by injection h with h; subst h; exact ⟨by kernel_rfl, by kernel_rfl, by decide⟩, fun h => by cases h⟩
theorem tok59 : TOk Tryz.prog 59 { k := .fn, sz := 1, bys := 8, z := some [.nilk 1] } := ⟨by kernel_rfl, by kernel_rfl, fun l h => by injection h with h; subst h; exact ⟨by kernel_rfl, by kernel_rfl, by decide⟩, fun h => by cases h⟩
theorem tok60 : TOk Tryz.prog 60 { k := .slice 9, sz := 1, bys := 24, z := some [.nil] } := ⟨by kernel_rfl, by kernel_rfl, fun l h => by injection h with h; subst h; exact ⟨by kernel_rfl, by kernel_rfl, by decide⟩, fun h => by cases h⟩
theorem tok61 : TOk Tryz.prog 61 { k := .struct [(0, 9), (1, 60), (2, 3)], sz := 3, bys := 48, z := some [.str [], .nil, .int .i64 0] } := ⟨by kernel_rfl, by kernel_rfl, fun l h => by injection h with h; subst h; exact ⟨by kernel_rfl, by kernel_rfl, by decide⟩, fun h => by cases h⟩
theorem tok62 : TOk Tryz.prog 62 { k := .struct [(0, 9), (1, 60), (2, 3)], sz := 3, bys := 48, z := some [.str [], .nil, .int .i64 0] } := ⟨by kernel_rfl, by kernel_rfl, fun l h => by injection h with h; subst h; exact ⟨by kernel_rfl, by kernel_rfl, by decide⟩, fun h => by cases h⟩
theorem tok63 : TOk Tryz.prog 63 { k := .fn, sz := 1, bys := 8, z := some [.nilk 1] } := ⟨by kernel_rfl, by kernel_rfl, fun l h => by injection h with h; subst h; exact ⟨by kernel_rfl, by kernel_rfl, by decide⟩, fun h => by cases h⟩
theorem tok64 : TOk Tryz.prog 64 { k := .fn, sz := 1, bys := 8, z := some [.nilk 1] } := ⟨by kernel_rfl, by kernel_rfl, fun l h => by injection h with h; subst h; exact ⟨by kernel_rfl, by kernel_rfl, by decide⟩, fun h => by cases h⟩
theorem tok65 : TOk Tryz.prog 65 { k := .fn, sz := 1, bys := 8, z := some [.nilk 1] } := ⟨by kernel_rfl, by kernel_rfl, fun l h => by injection h with h; subst h; exact ⟨by kernel_rfl, by kernel_rfl, by decide⟩, fun h => by cases h⟩
theorem tok66 : TOk Tryz.prog 66 { k := .fn, sz := 1, bys := 8, z := some [.nilk 1] } := ⟨by kernel_rfl, by kernel_rfl, fun l h => by injection h with h; subst h; exact ⟨by kernel_rfl, by kernel_rfl, by decide⟩, fun h => by cases h⟩
theorem tok67 : TOk Tryz.prog 67 { k := .slice 69, sz := 1, bys := 24, z := some [.nil] } := ⟨by kernel_rfl, by kernel_rfl, fun l h => by injection h with h; subst h; exact ⟨by kernel_rfl, by kernel_rfl, by decide⟩, fun h => by cases h⟩
theorem tok68 : TOk Tryz.prog 68 { k := .struct [(0, 3), (1, 3), (2, 9), (3, 67), (4, 60)], sz := 5, bys := 80, z := some [.int .i64 0, .int .i64 0, .str [], .nil, .nil] } := ⟨by kernel_rfl, by kernel_rfl, fun l h => by injection h with h; subst h; exact ⟨by kernel_rfl, by kernel_rfl, by decide⟩, fun h => by cases h⟩
theorem tok69 : TOk Tryz.prog 69 { k := .struct [(0, 3), (1, 3), (2, 9), (3, 67), (4, 60)], sz := 5, bys := 80, z := some [.int .i64 0, .int .i64 0, .str [], .nil, .nil] } := ⟨by kernel_rfl, by kernel_rfl, fun l h => by injection h with h; subst h; exact ⟨by kernel_rfl, by kernel_rfl, by decide⟩, fun h => by cases h⟩
theorem tok70 : TOk Tryz.prog 70 { k := .slice 183, sz := 1, bys := 24, z := some [.nil] } := ⟨by kernel_rfl, by kernel_rfl, fun l h => by injection h with h; subst h; exact ⟨by kernel_rfl, by kernel_rfl, by decide⟩, fun h => by cases h⟩
theorem tok71 : TOk Tryz.prog 71 { k := .struct [(0, 3), (1, 3), (2, 9), (3, 9), (4, 69), (9, 69), (14, 70), (15, 3), (16, 3)], sz := 17, bys := 248, z := some [.int .i64 0, .int .i64 0, .str [], .str [], .int .i64 0, .int .i64 0, .str [], .nil, .nil, .int .i64 0, .int .i64 0, .str [], .nil, .nil, .nil, .int .i64 0, .int .i64 0] } := ⟨by kernel_rfl, by kernel_rfl, fun l h => by injection h with h; subst h; exact ⟨by kernel_rfl, by kernel_rfl, by decide⟩, fun h => by cases h⟩
theorem tok72 : TOk Tryz.prog 72 { k := .struct [(0, 3), (1, 3), (2, 9), (3, 9), (4, 69), (9, 69), (14, 70), (15, 3), (16, 3)], sz := 17, bys := 248, z := some [.int .i64 0, .int .i64 0, .str [], .str [], .int .i64 0, .int .i64 0, .str [], .nil, .nil, .int .i64 0, .int .i64 0, .str [], .nil, .nil, .nil, .int .i64 0, .int .i64 0] } := ⟨by kernel_rfl, by kernel_rfl, fun l h => by injection h with h; subst h; exact ⟨by kernel_rfl, by kernel_rfl, by decide⟩, fun h => by cases h⟩
theorem tok73 : TOk Tryz.prog 73 { k := .fn, sz := 1, bys := 8, z := some [.nilk 1] } := ⟨by kernel_rfl, by kernel_rfl, fun l h => by injection h with h; subst h; exact ⟨by kernel_rfl, by kernel_rfl, by decide⟩, fun h => by cases h⟩
theorem tok74 : TOk Tryz.prog 74 { k := .fn, sz := 1, bys := 8, z := some [.nilk 1] } := ⟨by kernel_rfl, by kernel_rfl, fun l h => by injection h with h; subst h; exact ⟨by kernel_rfl, by kernel_rfl, by decide⟩, fun h => by cases h⟩
theorem tok75 : TOk Tryz.prog 75 { k := .struct [(0, 3), (1, 3), (2, 3), (3, 9), (4, 9), (5, 69), (10, 70), (11, 69), (16, 3), (17, 69), (22, 3), (23, 27)], sz := 24, bys := 360, z := some [.int .i64 0, .int .i64 0, .int .i64 0, .str [], .str [], .int .i64 0, .int .i64 0, .str [], .nil, .nil, .nil, .int .i64 0, .int .i64 0, .str [], .nil, .nil, .int .i64 0, .int .i64 0, .int .i64 0, .str [], .nil, .nil, .int .i64 0, .nil] } := ⟨by kernel_rfl, by kernel_rfl, fun l h => by injection h with h; subst h; exact ⟨by kernel_rfl, by kernel_rfl, by decide⟩, fun h => by cases h⟩
theorem tok76 : TOk Tryz.prog 76 { k := .struct [(0, 3), (1, 3), (2, 3), (3, 9), (4, 9), (5, 69), (10, 70), (11, 69), (16, 3), (17, 69), (22, 3), (23, 27)], sz := 24, bys := 360, z := some [.int .i64 0, .int .i64 0, .int .i64 0, .str [], .str [], .int .i64 0, .int .i64 0, .str [], .nil, .nil, .nil, .int .i64 0, .int .i64 0, .str [], .nil, .nil, .int .i64 0, .int .i64 0, .int .i64 0, .str [], .nil, .nil, .int .i64 0, .nil] } := ⟨by kernel_rfl, by kernel_rfl, fun l h => by injection h with h; subst h; exact ⟨by kernel_rfl, by kernel_rfl, by decide⟩, fun h => by cases h⟩
theorem tok78 : TOk Tryz.prog 78 { k := .fn, sz := 1, bys := 8, z := some [.nilk 1] } := ⟨by kernel_rfl, by kernel_rfl, fun l h => by injection h with h; subst h; exact ⟨by kernel_rfl, by kernel_rfl, by decide⟩, fun h => by cases h⟩
theorem tok79 : TOk Tryz.prog 79 { k := .fn, sz := 1, bys := 8, z := some [.nilk 1] } := ⟨by kernel_rfl, by kernel_rfl, fun l h => by injection h with h; subst h; exact ⟨by kernel_rfl, by kernel_rfl, by decide⟩, fun h => by cases h⟩
theorem tok80 : TOk Tryz.prog 80 { k := .fn, sz := 1, bys := 8, z := some [.nilk 1] } := ⟨by kernel_rfl, by kernel_rfl, fun l h => by injection h with h; subst h; exact ⟨by kernel_rfl, by kernel_rfl, by decide⟩, fun h => by cases h⟩
theorem tok81 : TOk Tryz.prog 81 { k := .fn, sz := 1, bys := 8, z := some [.nilk 1] } := ⟨by kernel_rfl, by kernel_rfl, fun l h => by injection h with h; subst h; exact ⟨by kernel_rfl, by kernel_rfl, by decide⟩, fun h => by cases h⟩
theorem tok82 : TOk Tryz.prog 82 { k := .fn, sz := 1, bys := 8, z := some [.nilk 1] } := ⟨by kernel_rfl, by kernel_rfl, fun l h => by injection h with h; subst h; exact ⟨by kernel_rfl, by kernel_rfl, by decide⟩, fun h => by cases h⟩
theorem tok83 : TOk Tryz.prog 83 { k := .struct [(0, 25)], sz := 1, bys := 24, z := some [.nil] } := ⟨by kernel_rfl, by kernel_rfl, fun l h => by injection h with h; subst h; exact ⟨by kernel_rfl, by kernel_rfl, by decide⟩, fun h => by cases h⟩
theorem tok84 : TOk Tryz.prog 84 { k := .struct [(0, 25)], sz := 1, bys := 24, z := some [.nil] } := ⟨by kernel_rfl, by kernel_rfl, fun l h => by injection h with h; subst h; exact ⟨by kernel_rfl, by kernel_rfl, by decide⟩, fun h => by cases h⟩
theorem tok85 : TOk Tryz.prog 85 { k := .fn, sz := 1, bys := 8, z := some [.nilk 1] } := ⟨by kernel_rfl, by kernel_rfl, fun l h => by injection h with h; subst h; exact ⟨by kernel_rfl, by kernel_rfl, by decide⟩, fun h => by cases h⟩
theorem tok86 : TOk Tryz.prog 86 { k := .fn, sz := 1, bys := 8, z := some [.nilk 1] } := ⟨by kernel_rfl, by kernel_rfl, fun l h => by injection h with h; subst h; exact ⟨by kernel_rfl, by kernel_rfl, by decide⟩, fun h => by cases h⟩
theorem tok87 : TOk Tryz.prog 87 { k := .fn, sz := 1, bys := 8, z := some [.nilk 1] } := ⟨by kernel_rfl, by kernel_rfl, fun l h => by injection h with h; subst h; exact ⟨by kernel_rfl, by kernel_rfl, by decide⟩, fun h => by cases h⟩
theorem tok88 : TOk Tryz.prog 88 { k := .fn, sz := 1, bys := 8, z := some [.nilk 1] } := ⟨by kernel_rfl, by kernel_rfl, fun l h => by injection h with h; subst h; exact ⟨by kernel_rfl, by kernel_rfl, by decide⟩, fun h => by cases h⟩
theorem tok89 : TOk Tryz.prog 89 { k := .fn, sz := 1, bys := 8, z := some [.nilk 1] } := ⟨by kernel_rfl, by kernel_rfl, fun l h => by injection h with h; subst h; exact ⟨by kernel_rfl, by kernel_rfl, by decide⟩, fun h => by cases h⟩
theorem tok90 : TOk Tryz.prog 90 { k := .fn, sz := 1, bys := 8, z := some [.nilk 1] } := ⟨by kernel_rfl, by kernel_rfl, fun l h => by injection h with h; subst h; exact ⟨by kernel_rfl, by kernel_rfl, by decide⟩, fun h => by cases h⟩
theorem tok91 : TOk Tryz.prog 91 { k := .fn, sz := 1, bys := 8, z := some [.nilk 1] } := ⟨by kernel_rfl, by kernel_rfl, fun l h => by injection h with h; subst h; exact ⟨by kernel_rfl, by kernel_rfl, by decide⟩, fun h => by cases h⟩
theorem tok92 : TOk Tryz.prog 92 { k := .struct [(0, 4), (1, 4), (2, 4), (3, 4), (4, 4), (5, 4), (6, 4)], sz := 7, bys := 7, z := some [.bool false, .bool false, .bool false, .bool false, .bool false, .bool false, .bool false] } := ⟨by kernel_rfl, by kernel_rfl, fun l h => by injection h with h; subst h; exact ⟨by kernel_rfl, by kernel_rfl, by decide⟩, fun h => by cases h⟩
theorem tok93 : TOk Tryz.prog 93 { k := .struct [(0, 4), (1, 4), (2, 4), (3, 4), (4, 4), (5, 4), (6, 4)], sz := 7, bys := 7, z := some [.bool false, .bool false, .bool false, .bool false, .bool false, .bool false, .bool false], eq := true } := ⟨by kernel_rfl, by kernel_rfl, fun l h => by injection h with h; subst h; exact ⟨by kernel_rfl, by kernel_rfl, by decide⟩, fun _ => by kernel_rfl⟩
theorem tok95 : TOk Tryz.prog 95 { k := .fn, sz := 1, bys := 8, z := some [.nilk 1] } := ⟨by kernel_rfl, by kernel_rfl, fun l h => by injection h with h; subst h; exact ⟨by kernel_rfl, by kernel_rfl, by decide⟩, fun h => by cases h⟩
theorem tok96 : TOk Tryz.prog 96 { k := .fn, sz := 1, bys := 8, z := some [.nilk 1] } := ⟨by kernel_rfl, by kernel_rfl, fun l h => by injection h with h; subst h; exact ⟨by kernel_rfl, by kernel_rfl, by decide⟩, fun h => by cases h⟩
theorem tok97 : TOk Tryz.prog 97 { k := .fn, sz := 1, bys := 8, z := some [.nilk 1] } := ⟨by kernel_rfl, by kernel_rfl, fun l h => by injection h with h; subst h; exact ⟨by kernel_rfl, by kernel_rfl, by decide⟩, fun h => by cases h⟩
theorem tok98 : TOk Tryz.prog 98 { k := .fn, sz := 1, bys := 8, z := some [.nilk 1] } := ⟨by kernel_rfl, by kernel_rfl, fun l h => by injection h with h; subst h; exact ⟨by kernel_rfl, by kernel_rfl, by decide⟩, fun h => by cases h⟩
theorem tok99 : TOk Tryz.prog 99 { k := .fn, sz := 1, bys := 8, z := some [.nilk 1] } := ⟨by kernel_rfl, by kernel_rfl, fun l h => by injection h with h; subst h; exact ⟨by kernel_rfl, by kernel_rfl, by decide⟩, fun h => by cases h⟩
theorem tok100 : TOk Tryz.prog 100 { k := .fn, sz := 1, bys := 8, z := some [.nilk 1] } := ⟨by kernel_rfl, by kernel_rfl, fun l h => by injection h with h; subst h; exact ⟨by kernel_rfl, by kernel_rfl, by decide⟩, fun h => by cases h⟩
theorem tok101 : TOk Tryz.prog 101 { k := .fn, sz := 1, bys := 8, z := some [.nilk 1] } := ⟨by kernel_rfl, by kernel_rfl, fun l h => by injection h with h; subst h; exact ⟨by kernel_rfl, by kernel_rfl, by decide⟩, fun h => by cases h⟩
theorem tok102 : TOk Tryz.prog 102 { k := .ptr 3, sz := 1, bys := 8, z := some [.nilp] } := ⟨by kernel_rfl, by kernel_rfl, fun l h => by injection h with h; subst h; exact ⟨by kernel_rfl, by kernel_rfl, by decide⟩, fun h => by cases h⟩
theorem tok103 : TOk Tryz.prog 103 { k := .arr 4 102, sz := 4, bys := 32, z := some (List.replicate 4 (.nilp)) } := ⟨by kernel_rfl, by kernel_rfl, fun l h => by injection h with h; subst h; exact ⟨by kernel_rfl, by kernel_rfl, by decide⟩, fun h => by cases h⟩
theorem tok104 : TOk Tryz.prog 104 { k := .fn, sz := 1, bys := 8, z := some [.nilk 1] } := ⟨by kernel_rfl, by kernel_rfl, fun l h => by injection h with h; subst h; exact ⟨by kernel_rfl, by kernel_rfl, by decide⟩, fun h => by cases h⟩
theorem tok105 : TOk Tryz.prog 105 { k := .ptr 29, sz := 1, bys := 8, z := some [.nilp] } := ⟨by kernel_rfl, by kernel_rfl, fun l h => by injection h with h; subst h; exact ⟨by kernel_rfl, by kernel_rfl, by decide⟩, fun h => by cases h⟩
theorem tok106 : TOk Tryz.prog 106 { k := .fn, sz := 1, bys := 8, z := some [.nilk 1] } := ⟨by kernel_rfl, by kernel_rfl, fun l h => by injection h with h; subst h; exact ⟨by kernel_rfl, by kernel_rfl, by decide⟩, fun h => by cases h⟩
theorem tok107 : TOk Tryz.prog 107 { k := .ptr 163, sz := 1, bys := 8, z := some [.nilp] } := ⟨by kernel_rfl, by kernel_rfl, fun l h => by injection h with h; subst h; exact ⟨by kernel_rfl, by kernel_rfl, by decide⟩, fun h => by cases h⟩
theorem tok108 : TOk Tryz.prog 108 { k := .fn, sz := 1, bys := 8, z := some [.nilk 1] } := ⟨by kernel_rfl, by kernel_rfl, fun l h => by injection h with h; subst h; exact ⟨by kernel_rfl, by kernel_rfl, by decide⟩, fun h => by cases h⟩
theorem tok109 : TOk Tryz.prog 109 { k := .fn, sz := 1, bys := 8, z := some [.nilk 1] } := ⟨by kernel_rfl, by kernel_rfl, fun l h => by injection h with h; subst h; exact ⟨by kernel_rfl, by kernel_rfl, by decide⟩, fun h => by cases h⟩
theorem tok110 : TOk Tryz.prog 110 { k := .fn, sz := 1, bys := 8, z := some [.nilk 1] } := ⟨by kernel_rfl, by kernel_rfl, fun l h => by injection h with h; subst h; exact ⟨by kernel_rfl, by kernel_rfl, by decide⟩, fun h => by cases h⟩
theorem tok111 : TOk Tryz.prog 111 { k := .fn, sz := 1, bys := 8, z := some [.nilk 1] } := ⟨by kernel_rfl, by kernel_rfl, fun l h => by injection h with h; subst h; exact ⟨by kernel_rfl, by kernel_rfl, by decide⟩, fun h => by cases h⟩
theorem tok112 : TOk Tryz.prog 112 { k := .slice 3, sz := 1, bys := 24, z := some [.nil] } := ⟨by kernel_rfl, by kernel_rfl, fun l h => by injection h with h; subst h; exact ⟨by kernel_rfl, by kernel_rfl, by decide⟩, fun h => by cases h⟩
theorem tok113 : TOk Tryz.prog 113 { k := .slice 4, sz := 1, bys := 24, z := some [.nil] } := ⟨by kernel_rfl, by kernel_rfl, fun l h => by injection h with h; subst h; exact ⟨by kernel_rfl, by kernel_rfl, by decide⟩, fun h => by cases h⟩
theorem tok114 : TOk Tryz.prog 114 { k := .fn, sz := 1, bys := 8, z := some [.nilk 1] } := ⟨by kernel_rfl, by kernel_rfl, fun l h => by injection h with h; subst h; exact ⟨by kernel_rfl, by kernel_rfl, by decide⟩, fun h => by cases h⟩
theorem tok115 : TOk Tryz.prog 115 { k := .ptr 117, sz := 1, bys := 8, z := some [.nilp] } := ⟨by kernel_rfl, by kernel_rfl, fun l h => by injection h with h; subst h; exact ⟨by kernel_rfl, by kernel_rfl, by decide⟩, fun h => by cases h⟩
theorem tok116 : TOk Tryz.prog 116 { k := .struct [(0, 27), (1, 4)], sz := 2, bys := 32, z := some [.nil, .bool false] } := ⟨by kernel_rfl, by kernel_rfl, fun l h => by injection h with h; subst h; exact ⟨by kernel_rfl, by kernel_rfl, by decide⟩, fun h => by cases h⟩
theorem tok117 : TOk Tryz.prog 117 { k := .struct [(0, 27), (1, 4)], sz := 2, bys := 32, z := some [.nil, .bool false] } := ⟨by kernel_rfl, by kernel_rfl, fun l h => by injection h with h; subst h; exact ⟨by kernel_rfl, by kernel_rfl, by decide⟩, fun h => by cases h⟩
theorem tok118 : TOk Tryz.prog 118 { k := .fn, sz := 1, bys := 8, z := some [.nilk 1] } := ⟨by kernel_rfl, by kernel_rfl, fun l h => by injection h with h; subst h; exact ⟨by kernel_rfl, by kernel_rfl, by decide⟩, fun h => by cases h⟩
theorem tok119 : TOk Tryz.prog 119 { k := .fn, sz := 1, bys := 8, z := some [.nilk 1] } := ⟨by kernel_rfl, by kernel_rfl, fun l h => by injection h with h; subst h; exact ⟨by kernel_rfl, by kernel_rfl, by decide⟩, fun h => by cases h⟩
theorem tok120 : TOk Tryz.prog 120 { k := .fn, sz := 1, bys := 8, z := some [.nilk 1] } := ⟨by kernel_rfl, by kernel_rfl, fun l h => by injection h with h; subst h; exact ⟨by kernel_rfl, by kernel_rfl, by decide⟩, fun h => by cases h⟩
theorem tok121 : TOk Tryz.prog 121 { k := .fn, sz := 1, bys := 8, z := some [.nilk 1] } := ⟨by kernel_rfl, by kernel_rfl, fun l h => by injection h with h; subst h; exact ⟨by kernel_rfl, by kernel_rfl, by decide⟩, fun h => by cases h⟩
theorem tok122 : TOk Tryz.prog 122 { k := .ptr 250, sz := 1, bys := 8, z := some [.nilp] } := ⟨by kernel_rfl, by kernel_rfl, fun l h => by injection h with h; subst h; exact ⟨by kernel_rfl, by kernel_rfl, by decide⟩, fun h => by cases h⟩
theorem tok123 : TOk Tryz.prog 123 { k := .struct [(0, 62), (3, 3), (4, 3), (5, 4), (6, 4), (7, 27)], sz := 8, bys := 96, z := some [.str [], .nil, .int .i64 0, .int .i64 0, .int .i64 0, .bool false, .bool false, .nil] } := ⟨by kernel_rfl, by kernel_rfl, fun l h => by injection h with h; subst h; exact ⟨by kernel_rfl, by kernel_rfl, by decide⟩, fun h => by cases h⟩
theorem tok124 : TOk Tryz.prog 124 { k := .struct [(0, 62), (3, 3), (4, 3), (5, 4), (6, 4), (7, 27)], sz := 8, bys := 96, z := some [.str [], .nil, .int .i64 0, .int .i64 0, .int .i64 0, .bool false, .bool false, .nil] } := ⟨by kernel_rfl, by kernel_rfl, fun l h => by injection h with h; subst h; exact ⟨by kernel_rfl, by kernel_rfl, by decide⟩, fun h => by cases h⟩
theorem tok125 : TOk Tryz.prog 125 { k := .fn, sz := 1, bys := 8, z := some [.nilk 1] } := ⟨by kernel_rfl, by kernel_rfl, fun l h => by injection h with h; subst h; exact ⟨by kernel_rfl, by kernel_rfl, by decide⟩, fun h => by cases h⟩
theorem tok127 : TOk Tryz.prog 127 { k := .fn, sz := 1, bys := 8, z := some [.nilk 1] } := ⟨by kernel_rfl, by kernel_rfl, fun l h => by injection h with h; subst h; exact ⟨by kernel_rfl, by kernel_rfl, by decide⟩, fun h => by cases h⟩
theorem tok128 : TOk Tryz.prog 128 { k := .fn, sz := 1, bys := 8, z := some [.nilk 1] } := ⟨by kernel_rfl, by kernel_rfl, fun l h => by injection h with h; subst h; exact ⟨by kernel_rfl, by kernel_rfl, by decide⟩, fun h => by cases h⟩
theorem tok129 : TOk Tryz.prog 129 { k := .fn, sz := 1, bys := 8, z := some [.nilk 1] } := ⟨by kernel_rfl, by kernel_rfl, fun l h => by injection h with h; subst h; exact ⟨by kernel_rfl, by kernel_rfl, by decide⟩, fun h => by cases h⟩
theorem tok130 : TOk Tryz.prog 130 { k := .fn, sz := 1, bys := 8, z := some [.nilk 1] } := ⟨by kernel_rfl, by kernel_rfl, fun l h => by injection h with h; subst h; exact ⟨by kernel_rfl, by kernel_rfl, by decide⟩, fun h => by cases h⟩
theorem tok131 : TOk Tryz.prog 131 { k := .ptr 186, sz := 1, bys := 8, z := some [.nilp] } := ⟨by kernel_rfl, by kernel_rfl, fun l h => by injection h with h; subst h; exact ⟨by kernel_rfl, by kernel_rfl, by decide⟩, fun h => by cases h⟩
theorem tok132 : TOk Tryz.prog 132 { k := .fn, sz := 1, bys := 8, z := some [.nilk 1] } := ⟨by kernel_rfl, by kernel_rfl, fun l h => by injection h with h; subst h; exact ⟨by kernel_rfl, by kernel_rfl, by decide⟩, fun h => by cases h⟩
theorem tok133 : TOk Tryz.prog 133 { k := .fn, sz := 1, bys := 8, z := some [.nilk 1] } := ⟨by kernel_rfl, by kernel_rfl, fun l h => by injection h with h; subst h; exact ⟨by kernel_rfl, by kernel_rfl, by decide⟩, fun h => by cases h⟩
theorem tok134 : TOk Tryz.prog 134 { k := .fn, sz := 1, bys := 8, z := some [.nilk 1] } := ⟨by kernel_rfl, by kernel_rfl, fun l h => by injection h with h; subst h; exact ⟨by kernel_rfl, by kernel_rfl, by decide⟩, fun h => by cases h⟩
theorem tok135 : TOk Tryz.prog 135 { k := .fn, sz := 1, bys := 8, z := some [.nilk 1] } := ⟨by kernel_rfl, by kernel_rfl, fun l h => by injection h with h; subst h; exact ⟨by kernel_rfl, by kernel_rfl, by decide⟩, fun h => by cases h⟩
theorem tok136 : TOk Tryz.prog 136 { k := .fn, sz := 1, bys := 8, z := some [.nilk 1] } := ⟨by kernel_rfl, by kernel_rfl, fun l h => by injection h with h; subst h; exact ⟨by kernel_rfl, by kernel_rfl, by decide⟩, fun h => by cases h⟩
theorem tok137 : TOk Tryz.prog 137 { k := .fn, sz := 1, bys := 8, z := some [.nilk 1] } := ⟨by kernel_rfl, by kernel_rfl, fun l h => by injection h with h; subst h; exact ⟨by kernel_rfl, by kernel_rfl, by decide⟩, fun h => by cases h⟩
theorem tok138 : TOk Tryz.prog 138 { k := .fn, sz := 1, bys := 8, z := some [.nilk 1] } := ⟨by kernel_rfl, by kernel_rfl, fun l h => by injection h with h; subst h; exact ⟨by kernel_rfl, by kernel_rfl, by decide⟩, fun h => by cases h⟩
theorem tok139 : TOk Tryz.prog 139 { k := .struct [(0, 3), (1, 3), (2, 3)], sz := 3, bys := 24, z := some [.int .i64 0, .int .i64 0, .int .i64 0] } := ⟨by kernel_rfl, by kernel_rfl, fun l h => by injection h with h; subst h; exact ⟨by kernel_rfl, by kernel_rfl, by decide⟩, fun h => by cases h⟩
theorem tok140 : TOk Tryz.prog 140 { k := .struct [(0, 3), (1, 3), (2, 3)], sz := 3, bys := 24, z := some [.int .i64 0, .int .i64 0, .int .i64 0], eq := true } := ⟨by kernel_rfl, by kernel_rfl, fun l h => by injection h with h; subst h; exact ⟨by kernel_rfl, by kernel_rfl, by decide⟩, fun _ => by kernel_rfl⟩
theorem tok141 : TOk Tryz.prog 141 { k := .fn, sz := 1, bys := 8, z := some [.nilk 1] } := ⟨by kernel_rfl, by kernel_rfl, fun l h => by injection h with h; subst h; exact ⟨by kernel_rfl, by kernel_rfl, by decide⟩, fun h => by cases h⟩
theorem tok143 : TOk Tryz.prog 143 { k := .fn, sz := 1, bys := 8, z := some [.nilk 1] } := ⟨by kernel_rfl, by kernel_rfl, fun l h => by injection h with h; subst h; exact ⟨by kernel_rfl, by kernel_rfl, by decide⟩, fun h => by cases h⟩
theorem tok144 : TOk Tryz.prog 144 { k := .fn, sz := 1, bys := 8, z := some [.nilk 1] } := ⟨by kernel_rfl, by kernel_rfl, fun l h => by injection h with h; subst h; exact ⟨by kernel_rfl, by kernel_rfl, by decide⟩, fun h => by cases h⟩
theorem tok145 : TOk Tryz.prog 145 { k := .fn, sz := 1, bys := 8, z := some [.nilk 1] } := ⟨by kernel_rfl, by kernel_rfl, fun l h => by injection h with h; subst h; exact ⟨by kernel_rfl, by kernel_rfl, by decide⟩, fun h => by cases h⟩
theorem tok147 : TOk Tryz.prog 147 { k := .fn, sz := 1, bys := 8, z := some [.nilk 1] } := ⟨by kernel_rfl, by kernel_rfl, fun l h => by injection h with h; subst h; exact ⟨by kernel_rfl, by kernel_rfl, by decide⟩, fun h => by cases h⟩
theorem tok148 : TOk Tryz.prog 148 { k := .fn, sz := 1, bys := 8, z := some [.nilk 1] } := ⟨by kernel_rfl, by kernel_rfl, fun l h => by injection h with h; subst h; exact ⟨by kernel_rfl, by kernel_rfl, by decide⟩, fun h => by cases h⟩
theorem tok149 : TOk Tryz.prog 149 { k := .fn, sz := 1, bys := 8, z := some [.nilk 1] } := ⟨by kernel_rfl, by kernel_rfl, fun l h => by injection h with h; subst h; exact ⟨by kernel_rfl, by kernel_rfl, by decide⟩, fun h => by cases h⟩
theorem tok150 : TOk Tryz.prog 150 { k := .fn, sz := 1, bys := 8, z := some [.nilk 1] } := ⟨by kernel_rfl, by kernel_rfl, fun l h => by injection h with h; subst h; exact ⟨by kernel_rfl, by kernel_rfl, by decide⟩, fun h => by cases h⟩
theorem tok151 : TOk Tryz.prog 151 { k := .fn, sz := 1, bys := 8, z := some [.nilk 1] } := ⟨by kernel_rfl, by kernel_rfl, fun l h => by injection h with h; subst h; exact ⟨by kernel_rfl, by kernel_rfl, by decide⟩, fun h => by cases h⟩
theorem tok152 : TOk Tryz.prog 152 { k := .fn, sz := 1, bys := 8, z := some [.nilk 1] } := ⟨by kernel_rfl, by kernel_rfl, fun l h => by injection h with h; subst h; exact ⟨by kernel_rfl, by kernel_rfl, by decide⟩, fun h => by cases h⟩
theorem tok153 : TOk Tryz.prog 153 { k := .fn, sz := 1, bys := 8, z := some [.nilk 1] } := ⟨by kernel_rfl, by kernel_rfl, fun l h => by injection h with h; subst h; exact ⟨by kernel_rfl, by kernel_rfl, by decide⟩, fun h => by cases h⟩
theorem tok155 : TOk Tryz.prog 155 { k := .fn, sz := 1, bys := 8, z := some [.nilk 1] } := ⟨by kernel_rfl, by kernel_rfl, fun l h => by injection h with h; subst h; exact ⟨by kernel_rfl, by kernel_rfl, by decide⟩, fun h => by cases h⟩
theorem tok156 : TOk Tryz.prog 156 { k := .fn, sz := 1, bys := 8, z := some [.nilk 1] } := ⟨by kernel_rfl, by kernel_rfl, fun l h => by injection h with h; subst h; exact ⟨by kernel_rfl, by kernel_rfl, by decide⟩, fun h => by cases h⟩
theorem tok157 : TOk Tryz.prog 157 { k := .fn, sz := 1, bys := 8, z := some [.nilk 1] } := ⟨by kernel_rfl, by kernel_rfl, fun l h => by injection h with h; subst h; exact ⟨by kernel_rfl, by kernel_rfl, by decide⟩, fun h => by cases h⟩
theorem tok158 : TOk Tryz.prog 158 { k := .fn, sz := 1, bys := 8, z := some [.nilk 1] } := ⟨by kernel_rfl, by kernel_rfl, fun l h => by injection h with h; subst h; exact ⟨by kernel_rfl, by kernel_rfl, by decide⟩, fun h => by cases h⟩
theorem tok159 : TOk Tryz.prog 159 { k := .fn, sz := 1, bys := 8, z := some [.nilk 1] } := ⟨by kernel_rfl, by kernel_rfl, fun l h => by injection h with h; subst h; exact ⟨by kernel_rfl, by kernel_rfl, by decide⟩, fun h => by cases h⟩
theorem tok160 : TOk Tryz.prog 160 { k := .fn, sz := 1, bys := 8, z := some [.nilk 1] } := ⟨by kernel_rfl, by kernel_rfl, fun l h => by injection h with h; subst h; exact ⟨by kernel_rfl, by kernel_rfl, by decide⟩, fun h => by cases h⟩
theorem tok161 : TOk Tryz.prog 161 { k := .fn, sz := 1, bys := 8, z := some [.nilk 1] } := ⟨by kernel_rfl, by kernel_rfl, fun l h => by injection h with h; subst h; exact ⟨by kernel_rfl, by kernel_rfl, by decide⟩, fun h => by cases h⟩
theorem tok162 : TOk Tryz.prog 162 { k := .struct [(0, 27), (1, 4)], sz := 2, bys := 32, z := some [.nil, .bool false] } := ⟨by kernel_rfl, by kernel_rfl, fun l h => by injection h with h; subst h; exact ⟨by kernel_rfl, by kernel_rfl, by decide⟩, fun h => by cases h⟩
theorem tok163 : TOk Tryz.prog 163 { k := .struct [(0, 27), (1, 4)], sz := 2, bys := 32, z := some [.nil, .bool false] } := ⟨by kernel_rfl, by kernel_rfl, fun l h => by injection h with h; subst h; exact ⟨by kernel_rfl, by kernel_rfl, by decide⟩, fun h => by cases h⟩
theorem tok164 : TOk Tryz.prog 164 { k := .int .u64, sz := 1, bys := 8, z := some [.int .u64 0] } := ⟨by kernel_rfl, by kernel_rfl, fun l h => by injection h with h; subst h; exact ⟨by kernel_rfl, by kernel_rfl, by decide⟩, fun h => by cases h⟩
theorem tok166 : TOk Tryz.prog 166 { k := .fn, sz := 1, bys := 8, z := some [.nilk 1] } := ⟨by kernel_rfl, by kernel_rfl, fun l h => by injection h with h; subst h; exact ⟨by kernel_rfl, by kernel_rfl, by decide⟩, fun h => by cases h⟩
theorem tok167 : TOk Tryz.prog 167 { k := .fn, sz := 1, bys := 8, z := some [.nilk 1] } := ⟨by kernel_rfl, by kernel_rfl, fun l h => by injection h with h; subst h; exact ⟨by kernel_rfl, by kernel_rfl, by decide⟩, fun h => by cases h⟩
theorem tok168 : TOk Tryz.prog 168 { k := .fn, sz := 1, bys := 8, z := some [.nilk 1] } := ⟨by kernel_rfl, by kernel_rfl, fun l h => by injection h with h; subst h; exact ⟨by kernel_rfl, by kernel_rfl, by decide⟩, fun h => by cases h⟩
theorem tok169 : TOk Tryz.prog 169 { k := .fn, sz := 1, bys := 8, z := some [.nilk 1] } := ⟨by kernel_rfl, by kernel_rfl, fun l h => by injection h with h; subst h; exact ⟨by kernel_rfl, by kernel_rfl, by decide⟩, fun h => by cases h⟩
theorem tok170 : TOk Tryz.prog 170 { k := .fn, sz := 1, bys := 8, z := some [.nilk 1] } := ⟨by kernel_rfl, by kernel_rfl, fun l h => by injection h with h; subst h; exact ⟨by kernel_rfl, by kernel_rfl, by decide⟩, fun h => by cases h⟩
theorem tok171 : TOk Tryz.prog 171 { k := .fn, sz := 1, bys := 8, z := some [.nilk 1] } := ⟨by kernel_rfl, by kernel_rfl, fun l h => by injection h with h; subst h; exact ⟨by kernel_rfl, by kernel_rfl, by decide⟩, fun h => by cases h⟩
theorem tok172 : TOk Tryz.prog 172 { k := .fn, sz := 1, bys := 8, z := some [.nilk 1] } := ⟨by kernel_rfl, by kernel_rfl, fun l h => by injection h with h; subst h; exact ⟨by kernel_rfl, by kernel_rfl, by decide⟩, fun h => by cases h⟩
theorem tok173 : TOk Tryz.prog 173 { k := .fn, sz := 1, bys := 8, z := some [.nilk 1] } := ⟨by kernel_rfl, by kernel_rfl, fun l h => by injection h with h; subst h; exact ⟨by kernel_rfl, by kernel_rfl, by decide⟩, fun h => by cases h⟩
theorem tok174 : TOk Tryz.prog 174 { k := .fn, sz := 1, bys := 8, z := some [.nilk 1] } := ⟨by kernel_rfl, by kernel_rfl, fun l h => by injection h with h; subst h; exact ⟨by kernel_rfl, by kernel_rfl, by decide⟩, fun h => by cases h⟩
theorem tok176 : TOk Tryz.prog 176 { k := .fn, sz := 1, bys := 8, z := some [.nilk 1] } := ⟨by kernel_rfl, by kernel_rfl, fun l h => by injection h with h; subst h; exact ⟨by kernel_rfl, by kernel_rfl, by decide⟩, fun h => by cases h⟩
theorem tok177 : TOk Tryz.prog 177 { k := .fn, sz := 1, bys := 8, z := some [.nilk 1] } := ⟨by kernel_rfl, by kernel_rfl, fun l h => by injection h with h; subst h; exact ⟨by kernel_rfl, by kernel_rfl, by decide⟩, fun h => by cases h⟩
theorem tok178 : TOk Tryz.prog 178 { k := .fn, sz := 1, bys := 8, z := some [.nilk 1] } := ⟨by kernel_rfl, by kernel_rfl, fun l h => by injection h with h; subst h; exact ⟨by kernel_rfl, by kernel_rfl, by decide⟩, fun h => by cases h⟩
theorem tok180 : TOk Tryz.prog 180 { k := .fn, sz := 1, bys := 8, z := some [.nilk 1] } := ⟨by kernel_rfl, by kernel_rfl, fun l h => by injection h with h; subst h; exact ⟨by kernel_rfl, by kernel_rfl, by decide⟩, fun h => by cases h⟩
theorem tok181 : TOk Tryz.prog 181 { k := .fn, sz := 1, bys := 8, z := some [.nilk 1] } := ⟨by kernel_rfl, by kernel_rfl, fun l h => by injection h with h; subst h; exact ⟨by kernel_rfl, by kernel_rfl, by decide⟩, fun h => by cases h⟩
theorem tok182 : TOk Tryz.prog 182 { k := .struct [(0, 3), (1, 60), (2, 69), (7, 3)], sz := 8, bys := 120, z := some [.int .i64 0, .nil, .int .i64 0, .int .i64 0, .str [], .nil, .nil, .int .i64 0] } := ⟨by kernel_rfl, by kernel_rfl, fun l h => by injection h with h; subst h; exact ⟨by kernel_rfl, by kernel_rfl, by decide⟩, fun h => by cases h⟩
theorem tok183 : TOk Tryz.prog 183 { k := .struct [(0, 3), (1, 60), (2, 69), (7, 3)], sz := 8, bys := 120, z := some [.int .i64 0, .nil, .int .i64 0, .int .i64 0, .str [], .nil, .nil, .int .i64 0] } := ⟨by kernel_rfl, by kernel_rfl, fun l h => by injection h with h; subst h; exact ⟨by kernel_rfl, by kernel_rfl, by decide⟩, fun h => by cases h⟩
theorem tok184 : TOk Tryz.prog 184 { k := .map 9 187, sz := 1, bys := 8, z := some [.nilk 0] } := ⟨by kernel_rfl, by kernel_rfl, fun l h => by injection h with h; subst h; exact ⟨by kernel_rfl, by kernel_rfl, by decide⟩, fun h => by cases h⟩
theorem tok185 : TOk Tryz.prog 185 { k := .struct [(0, 184)], sz := 1, bys := 8, z := some [.nilk 0] } := ⟨by kernel_rfl, by kernel_rfl, fun l h => by injection h with h; subst h; exact ⟨by kernel_rfl, by kernel_rfl, by decide⟩, fun h => by cases h⟩
theorem tok186 : TOk Tryz.prog 186 { k := .struct [(0, 184)], sz := 1, bys := 8, z := some [.nilk 0] } := ⟨by kernel_rfl, by kernel_rfl, fun l h => by injection h with h; subst h; exact ⟨by kernel_rfl, by kernel_rfl, by decide⟩, fun h => by cases h⟩
theorem tok187 : TOk Tryz.prog 187 { k := .slice 189, sz := 1, bys := 24, z := some [.nil] } := ⟨by kernel_rfl, by kernel_rfl, fun l h => by injection h with h; subst h; exact ⟨by kernel_rfl, by kernel_rfl, by decide⟩, fun h => by cases h⟩
theorem tok188 : TOk Tryz.prog 188 { k := .struct [(0, 69), (5, 69)], sz := 10, bys := 160, z := some [.int .i64 0, .int .i64 0, .str [], .nil, .nil, .int .i64 0, .int .i64 0, .str [], .nil, .nil] } := ⟨by kernel_rfl, by kernel_rfl, fun l h => by injection h with h; subst h; exact ⟨by kernel_rfl, by kernel_rfl, by decide⟩, fun h => by cases h⟩
theorem tok189 : TOk Tryz.prog 189 { k := .struct [(0, 69), (5, 69)], sz := 10, bys := 160, z := some [.int .i64 0, .int .i64 0, .str [], .nil, .nil, .int .i64 0, .int .i64 0, .str [], .nil, .nil] } := ⟨by kernel_rfl, by kernel_rfl, fun l h => by injection h with h; subst h; exact ⟨by kernel_rfl, by kernel_rfl, by decide⟩, fun h => by cases h⟩
theorem tok191 : TOk Tryz.prog 191 { k := .fn, sz := 1, bys := 8, z := some [.nilk 1] } := ⟨by kernel_rfl, by kernel_rfl, fun l h => by injection h with h; subst h; exact ⟨by kernel_rfl, by kernel_rfl, by decide⟩, fun h => by cases h⟩
theorem tok192 : TOk Tryz.prog 192 { k := .fn, sz := 1, bys := 8, z := some [.nilk 1] } := ⟨by kernel_rfl, by kernel_rfl, fun l h => by injection h with h; subst h; exact ⟨by kernel_rfl, by kernel_rfl, by decide⟩, fun h => by cases h⟩
theorem tok193 : TOk Tryz.prog 193 { k := .fn, sz := 1, bys := 8, z := some [.nilk 1] } := ⟨by kernel_rfl, by kernel_rfl, fun l h => by injection h with h; subst h; exact ⟨by kernel_rfl, by kernel_rfl, by decide⟩, fun h => by cases h⟩
theorem tok194 : TOk Tryz.prog 194 { k := .fn, sz := 1, bys := 8, z := some [.nilk 1] } := ⟨by kernel_rfl, by kernel_rfl, fun l h => by injection h with h; subst h; exact ⟨by kernel_rfl, by kernel_rfl, by decide⟩, fun h => by cases h⟩
theorem tok195 : TOk Tryz.prog 195 { k := .struct [(0, 3), (1, 3), (2, 3), (3, 9), (4, 9), (5, 3), (6, 3), (7, 9)], sz := 8, bys := 88, z := some [.int .i64 0, .int .i64 0, .int .i64 0, .str [], .str [], .int .i64 0, .int .i64 0, .str []], eq := true } := ⟨by kernel_rfl, by kernel_rfl, fun l h => by injection h with h; subst h; exact ⟨by kernel_rfl, by kernel_rfl, by decide⟩, fun _ => by kernel_rfl⟩
theorem tok196 : TOk Tryz.prog 196 { k := .struct [(0, 3), (1, 3), (2, 3), (3, 9), (4, 9), (5, 3), (6, 3), (7, 9)], sz := 8, bys := 88, z := some [.int .i64 0, .int .i64 0, .int .i64 0, .str [], .str [], .int .i64 0, .int .i64 0, .str []], eq := true } := ⟨by kernel_rfl, by kernel_rfl, fun l h => by injection h with h; subst h; exact ⟨by kernel_rfl, by kernel_rfl, by decide⟩, fun _ => by kernel_rfl⟩
theorem tok197 : TOk Tryz.prog 197 { k := .fn, sz := 1, bys := 8, z := some [.nilk 1] } := ⟨by kernel_rfl, by kernel_rfl, fun l h => by injection h with h; subst h; exact ⟨by kernel_rfl, by kernel_rfl, by decide⟩, fun h => by cases h⟩
theorem tok198 : TOk Tryz.prog 198 { k := .fn, sz := 1, bys := 8, z := some [.nilk 1] } := ⟨by kernel_rfl, by kernel_rfl, fun l h => by injection h with h; subst h; exact ⟨by kernel_rfl, by kernel_rfl, by decide⟩, fun h => by cases h⟩
theorem tok199 : TOk Tryz.prog 199 { k := .fn, sz := 1, bys := 8, z := some [.nilk 1] } := ⟨by kernel_rfl, by kernel_rfl, fun l h => by injection h with h; subst h; exact ⟨by kernel_rfl, by kernel_rfl, by decide⟩, fun h => by cases h⟩
theorem tok201 : TOk Tryz.prog 201 { k := .fn, sz := 1, bys := 8, z := some [.nilk 1] } := ⟨by kernel_rfl, by kernel_rfl, fun l h => by injection h with h; subst h; exact ⟨by kernel_rfl, by kernel_rfl, by decide⟩, fun h => by cases h⟩
theorem tok202 : TOk Tryz.prog 202 { k := .fn, sz := 1, bys := 8, z := some [.nilk 1] } := ⟨by kernel_rfl, by kernel_rfl, fun l h => by injection h with h; subst h; exact ⟨by kernel_rfl, by kernel_rfl, by decide⟩, fun h => by cases h⟩
theorem tok203 : TOk Tryz.prog 203 { k := .int .u64, sz := 1, bys := 8, z := some [.int .u64 0] } := ⟨by kernel_rfl, by kernel_rfl, fun l h => by injection h with h; subst h; exact ⟨by kernel_rfl, by kernel_rfl, by decide⟩, fun h => by cases h⟩
theorem tok204 : TOk Tryz.prog 204 { k := .fn, sz := 1, bys := 8, z := some [.nilk 1] } := ⟨by kernel_rfl, by kernel_rfl, fun l h => by injection h with h; subst h; exact ⟨by kernel_rfl, by kernel_rfl, by decide⟩, fun h => by cases h⟩
theorem tok205 : TOk Tryz.prog 205 { k := .fn, sz := 1, bys := 8, z := some [.nilk 1] } := ⟨by kernel_rfl, by kernel_rfl, fun l h => by injection h with h; subst h; exact ⟨by kernel_rfl, by kernel_rfl, by decide⟩, fun h => by cases h⟩
theorem tok206 : TOk Tryz.prog 206 { k := .fn, sz := 1, bys := 8, z := some [.nilk 1] } := ⟨by kernel_rfl, by kernel_rfl, fun l h => by injection h with h; subst h; exact ⟨by kernel_rfl, by kernel_rfl, by decide⟩, fun h => by cases h⟩
theorem tok207 : TOk Tryz.prog 207 { k := .fn, sz := 1, bys := 8, z := some [.nilk 1] } := ⟨by kernel_rfl, by kernel_rfl, fun l h => by injection h with h; subst h; exact ⟨by kernel_rfl, by kernel_rfl, by decide⟩, fun h => by cases h⟩
theorem tok208 : TOk Tryz.prog 208 { k := .fn, sz := 1, bys := 8, z := some [.nilk 1] } := ⟨by kernel_rfl, by kernel_rfl, fun l h => by injection h with h; subst h; exact ⟨by kernel_rfl, by kernel_rfl, by decide⟩, fun h => by cases h⟩
theorem tok209 : TOk Tryz.prog 209 { k := .fn, sz := 1, bys := 8, z := some [.nilk 1] } := ⟨by kernel_rfl, by kernel_rfl, fun l h => by injection h with h; subst h; exact ⟨by kernel_rfl, by kernel_rfl, by decide⟩, fun h => by cases h⟩
theorem tok210 : TOk Tryz.prog 210 { k := .fn, sz := 1, bys := 8, z := some [.nilk 1] } := ⟨by kernel_rfl, by kernel_rfl, fun l h => by injection h with h; subst h; exact ⟨by kernel_rfl, by kernel_rfl, by decide⟩, fun h => by cases h⟩
theorem tok211 : TOk Tryz.prog 211 { k := .fn, sz := 1, bys := 8, z := some [.nilk 1] } := ⟨by kernel_rfl, by kernel_rfl, fun l h => by injection h with h; subst h; exact ⟨by kernel_rfl, by kernel_rfl, by decide⟩, fun h => by cases h⟩
theorem tok212 : TOk Tryz.prog 212 { k := .fn, sz := 1, bys := 8, z := some [.nilk 1] } := ⟨by kernel_rfl, by kernel_rfl, fun l h => by injection h with h; subst h; exact ⟨by kernel_rfl, by kernel_rfl, by decide⟩, fun h => by cases h⟩
theorem tok213 : TOk Tryz.prog 213 { k := .fn, sz := 1, bys := 8, z := some [.nilk 1] } := ⟨by kernel_rfl, by kernel_rfl, fun l h => by injection h with h; subst h; exact ⟨by kernel_rfl, by kernel_rfl, by decide⟩, fun h => by cases h⟩
theorem tok214 : TOk Tryz.prog 214 { k := .fn, sz := 1, bys := 8, z := some [.nilk 1] } := ⟨by kernel_rfl, by kernel_rfl, fun l h => by injection h with h; subst h; exact ⟨by kernel_rfl, by kernel_rfl, by decide⟩, fun h => by cases h⟩
theorem tok215 : TOk Tryz.prog 215 { k := .fn, sz := 1, bys := 8, z := some [.nilk 1] } := ⟨by kernel_rfl, by kernel_rfl, fun l h => by injection h with h; subst h; exact ⟨by kernel_rfl, by kernel_rfl, by decide⟩, fun h => by cases h⟩
theorem tok216 : TOk Tryz.prog 216 { k := .fn, sz := 1, bys := 8, z := some [.nilk 1] } := ⟨by kernel_rfl, by kernel_rfl, fun l h => by injection h with h; subst h; exact ⟨by kernel_rfl, by kernel_rfl, by decide⟩, fun h => by cases h⟩
theorem tok217 : TOk Tryz.prog 217 { k := .fn, sz := 1, bys := 8, z := some [.nilk 1] } := ⟨by kernel_rfl, by kernel_rfl, fun l h => by injection h with h; subst h; exact ⟨by kernel_rfl, by kernel_rfl, by decide⟩, fun h => by cases h⟩
theorem tok218 : TOk Tryz.prog 218 { k := .fn, sz := 1, bys := 8, z := some [.nilk 1] } := ⟨by kernel_rfl, by kernel_rfl, fun l h => by injection h with h; subst h; exact ⟨by kernel_rfl, by kernel_rfl, by decide⟩, fun h => by cases h⟩
theorem tok219 : TOk Tryz.prog 219 { k := .fn, sz := 1, bys := 8, z := some [.nilk 1] } := ⟨by kernel_rfl, by kernel_rfl, fun l h => by injection h with h; subst h; exact ⟨by kernel_rfl, by kernel_rfl, by decide⟩, fun h => by cases h⟩
theorem tok221 : TOk Tryz.prog 221 { k := .fn, sz := 1, bys := 8, z := some [.nilk 1] } := ⟨by kernel_rfl, by kernel_rfl, fun l h => by injection h with h; subst h; exact ⟨by kernel_rfl, by kernel_rfl, by decide⟩, fun h => by cases h⟩
theorem tok222 : TOk Tryz.prog 222 { k := .fn, sz := 1, bys := 8, z := some [.nilk 1] } := ⟨by kernel_rfl, by kernel_rfl, fun l h => by injection h with h; subst h; exact ⟨by kernel_rfl, by kernel_rfl, by decide⟩, fun h => by cases h⟩
theorem tok225 : TOk Tryz.prog 225 { k := .fn, sz := 1, bys := 8, z := some [.nilk 1] } := ⟨by kernel_rfl, by kernel_rfl, fun l h => by injection h with h; subst h; exact ⟨by kernel_rfl, by kernel_rfl, by decide⟩, fun h => by cases h⟩
theorem tok227 : TOk Tryz.prog 227 { k := .fn, sz := 1, bys := 8, z := some [.nilk 1] } := ⟨by kernel_rfl, by kernel_rfl, fun l h => by injection h with h; subst h; exact ⟨by kernel_rfl, by kernel_rfl, by decide⟩, fun h => by cases h⟩
theorem tok228 : TOk Tryz.prog 228 { k := .fn, sz := 1, bys := 8, z := some [.nilk 1] } := ⟨by kernel_rfl, by kernel_rfl, fun l h => by injection h with h; subst h; exact ⟨by kernel_rfl, by kernel_rfl, by decide⟩, fun h => by cases h⟩
theorem tok229 : TOk Tryz.prog 229 { k := .fn, sz := 1, bys := 8, z := some [.nilk 1] } := ⟨by kernel_rfl, by kernel_rfl, fun l h => by injection h with h; subst h; exact ⟨by kernel_rfl, by kernel_rfl, by decide⟩, fun h => by cases h⟩
theorem tok230 : TOk Tryz.prog 230 { k := .fn, sz := 1, bys := 8, z := some [.nilk 1] } := ⟨by kernel_rfl, by kernel_rfl, fun l h => by injection h with h; subst h; exact ⟨by kernel_rfl, by kernel_rfl, by decide⟩, fun h => by cases h⟩
theorem tok231 : TOk Tryz.prog 231 { k := .fn, sz := 1, bys := 8, z := some [.nilk 1] } := ⟨by kernel_rfl, by kernel_rfl, fun l h => by injection h with h; subst h; exact ⟨by kernel_rfl, by kernel_rfl, by decide⟩, fun h => by cases h⟩
theorem tok232 : TOk Tryz.prog 232 { k := .fn, sz := 1, bys := 8, z := some [.nilk 1] } := ⟨by kernel_rfl, by kernel_rfl, fun l h => by injection h with h; subst h; exact ⟨by kernel_rfl, by kernel_rfl, by decide⟩, fun h => by cases h⟩
theorem tok233 : TOk Tryz.prog 233 { k := .fn, sz := 1, bys := 8, z := some [.nilk 1] } := ⟨by kernel_rfl, by kernel_rfl, fun l h => by injection h with h; subst h; exact ⟨by kernel_rfl, by kernel_rfl, by decide⟩, fun h => by cases h⟩
theorem tok234 : TOk Tryz.prog 234 { k := .fn, sz := 1, bys := 8, z := some [.nilk 1] } := ⟨by kernel_rfl, by kernel_rfl, fun l h => by injection h with h; subst h; exact ⟨by kernel_rfl, by kernel_rfl, by decide⟩, fun h => by cases h⟩
theorem tok235 : TOk Tryz.prog 235 { k := .arr 2 3, sz := 2, bys := 16, z := some (List.replicate 2 (.int .i64 0)) } := ⟨by kernel_rfl, by kernel_rfl, fun l h => by injection h with h; subst h; exact ⟨by kernel_rfl, by kernel_rfl, by decide⟩, fun h => by cases h⟩
theorem tok236 : TOk Tryz.prog 236 { k := .fn, sz := 1, bys := 8, z := some [.nilk 1] } := ⟨by kernel_rfl, by kernel_rfl, fun l h => by injection h with h; subst h; exact ⟨by kernel_rfl, by kernel_rfl, by decide⟩, fun h => by cases h⟩
theorem tok237 : TOk Tryz.prog 237 { k := .int .u32, sz := 1, bys := 4, z := some [.int .u32 0] } := ⟨by kernel_rfl, by kernel_rfl, fun l h => by injection h with h; subst h; exact ⟨by kernel_rfl, by kernel_rfl, by decide⟩, fun h => by cases h⟩
theorem tok238 : TOk Tryz.prog 238 { k := .fn, sz := 1, bys := 8, z := some [.nilk 1] } := ⟨by kernel_rfl, by kernel_rfl, fun l h => by injection h with h; subst h; exact ⟨by kernel_rfl, by kernel_rfl, by decide⟩, fun h => by cases h⟩
theorem tok239 : TOk Tryz.prog 239 { k := .fn, sz := 1, bys := 8, z := some [.nilk 1] } := ⟨by kernel_rfl, by kernel_rfl, fun l h => by injection h with h; subst h; exact ⟨by kernel_rfl, by kernel_rfl, by decide⟩, fun h => by cases h⟩
theorem tok240 : TOk Tryz.prog 240 { k := .fn, sz := 1, bys := 8, z := some [.nilk 1] } := ⟨by kernel_rfl, by kernel_rfl, fun l h => by injection h with h; subst h; exact ⟨by kernel_rfl, by kernel_rfl, by decide⟩, fun h => by cases h⟩
theorem tok241 : TOk Tryz.prog 241 { k := .fn, sz := 1, bys := 8, z := some [.nilk 1] } := ⟨by kernel_rfl, by kernel_rfl, fun l h => by injection h with h; subst h; exact ⟨by kernel_rfl, by kernel_rfl, by decide⟩, fun h => by cases h⟩
theorem tok242 : TOk Tryz.prog 242 { k := .fn, sz := 1, bys := 8, z := some [.nilk 1] } := ⟨by kernel_rfl, by kernel_rfl, fun l h => by injection h with h; subst h; exact ⟨by kernel_rfl, by kernel_rfl, by decide⟩, fun h => by cases h⟩
theorem tok243 : TOk Tryz.prog 243 { k := .fn, sz := 1, bys := 8, z := some [.nilk 1] } := ⟨by kernel_rfl, by kernel_rfl, fun l h => by injection h with h; subst h; exact ⟨by kernel_rfl, by kernel_rfl, by decide⟩, fun h => by cases h⟩
theorem tok244 : TOk Tryz.prog 244 { k := .fn, sz := 1, bys := 8, z := some [.nilk 1] } := ⟨by kernel_rfl, by kernel_rfl, fun l h => by injection h with h; subst h; exact ⟨by kernel_rfl, by kernel_rfl, by decide⟩, fun h => by cases h⟩
theorem tok245 : TOk Tryz.prog 245 { k := .fn, sz := 1, bys := 8, z := some [.nilk 1] } := ⟨by kernel_rfl, by kernel_rfl, fun l h => by injection h with h; subst h; exact ⟨by kernel_rfl, by kernel_rfl, by decide⟩, fun h => by cases h⟩
theorem tok246 : TOk Tryz.prog 246 { k := .fn, sz := 1, bys := 8, z := some [.nilk 1] } := ⟨by kernel_rfl, by kernel_rfl, fun l h => by injection h with h; subst h; exact ⟨by kernel_rfl, by kernel_rfl, by decide⟩, fun h => by cases h⟩
theorem tok247 : TOk Tryz.prog 247 { k := .fn, sz := 1, bys := 8, z := some [.nilk 1] } := ⟨by kernel_rfl, by kernel_rfl, fun l h => by injection h with h; subst h; exact ⟨by kernel_rfl, by kernel_rfl, by decide⟩, fun h => by cases h⟩
theorem tok248 : TOk Tryz.prog 248 { k := .slice 252, sz := 1, bys := 24, z := some [.nil] } := ⟨by kernel_rfl, by kernel_rfl, fun l h => by injection h with h; subst h; exact ⟨by kernel_rfl, by kernel_rfl, by decide⟩, fun h => by cases h⟩
theorem tok249 : TOk Tryz.prog 249 { k := .struct [(0, 3), (1, 248), (2, 3), (3, 3)], sz := 4, bys := 48, z := some [.int .i64 0, .nil, .int .i64 0, .int .i64 0] } := ⟨by kernel_rfl, by kernel_rfl, fun l h => by injection h with h; subst h; exact ⟨by kernel_rfl, by kernel_rfl, by decide⟩, fun h => by cases h⟩
theorem tok250 : TOk Tryz.prog 250 { k := .struct [(0, 3), (1, 248), (2, 3), (3, 3)], sz := 4, bys := 48, z := some [.int .i64 0, .nil, .int .i64 0, .int .i64 0] } := ⟨by kernel_rfl, by kernel_rfl, fun l h => by injection h with h; subst h; exact ⟨by kernel_rfl, by kernel_rfl, by decide⟩, fun h => by cases h⟩
theorem tok251 : TOk Tryz.prog 251 { k := .struct [(0, 4), (1, 69)], sz := 6, bys := 88, z := some [.bool false, .int .i64 0, .int .i64 0, .str [], .nil, .nil] } := ⟨by kernel_rfl, by kernel_rfl, fun l h => by injection h with h; subst h; exact ⟨by kernel_rfl, by kernel_rfl, by decide⟩, fun h => by cases h⟩
theorem tok252 : TOk Tryz.prog 252 { k := .struct [(0, 4), (1, 69)], sz := 6, bys := 88, z := some [.bool false, .int .i64 0, .int .i64 0, .str [], .nil, .nil] } := ⟨by kernel_rfl, by kernel_rfl, fun l h => by injection h with h; subst h; exact ⟨by kernel_rfl, by kernel_rfl, by decide⟩, fun h => by cases h⟩
theorem tok253 : TOk Tryz.prog 253 { k := .fn, sz := 1, bys := 8, z := some [.nilk 1] } := ⟨by kernel_rfl, by kernel_rfl, fun l h => by injection h with h; subst h; exact ⟨by kernel_rfl, by kernel_rfl, by decide⟩, fun h => by cases h⟩
theorem tok254 : TOk Tryz.prog 254 { k := .fn, sz := 1, bys := 8, z := some [.nilk 1] } := ⟨by kernel_rfl, by kernel_rfl, fun l h => by injection h with h; subst h; exact ⟨by kernel_rfl, by kernel_rfl, by decide⟩, fun h => by cases h⟩
theorem tok255 : TOk Tryz.prog 255 { k := .fn, sz := 1, bys := 8, z := some [.nilk 1] } := ⟨by kernel_rfl, by kernel_rfl, fun l h => by injection h with h; subst h; exact ⟨by kernel_rfl, by kernel_rfl, by decide⟩, fun h => by cases h⟩
theorem tok256 : TOk Tryz.prog 256 { k := .fn, sz := 1, bys := 8, z := some [.nilk 1] } := ⟨by kernel_rfl, by kernel_rfl, fun l h => by injection h with h; subst h; exact ⟨by kernel_rfl, by kernel_rfl, by decide⟩, fun h => by cases h⟩
theorem tok257 : TOk Tryz.prog 257 { k := .fn, sz := 1, bys := 8, z := some [.nilk 1] } := ⟨by kernel_rfl, by kernel_rfl, fun l h => by injection h with h; subst h; exact ⟨by kernel_rfl, by kernel_rfl, by decide⟩, fun h => by cases h⟩
theorem tok258 : TOk Tryz.prog 258 { k := .fn, sz := 1, bys := 8, z := some [.nilk 1] } := ⟨by kernel_rfl, by kernel_rfl, fun l h => by injection h with h; subst h; exact ⟨by kernel_rfl, by kernel_rfl, by decide⟩, fun h => by cases h⟩
theorem tok259 : TOk Tryz.prog 259 { k := .fn, sz := 1, bys := 8, z := some [.nilk 1] } := ⟨by kernel_rfl, by kernel_rfl, fun l h => by injection h with h; subst h; exact ⟨by kernel_rfl, by kernel_rfl, by decide⟩, fun h => by cases h⟩
theorem tok260 : TOk Tryz.prog 260 { k := .fn, sz := 1, bys := 8, z := some [.nilk 1] } := ⟨by kernel_rfl, by kernel_rfl, fun l h => by injection h with h; subst h; exact ⟨by kernel_rfl, by kernel_rfl, by decide⟩, fun h => by cases h⟩
theorem tok261 : TOk Tryz.prog 261 { k := .fn, sz := 1, bys := 8, z := some [.nilk 1] } := ⟨by kernel_rfl, by kernel_rfl, fun l h => by injection h with h; subst h; exact ⟨by kernel_rfl, by kernel_rfl, by decide⟩, fun h => by cases h⟩
theorem tok262 : TOk Tryz.prog 262 { k := .fn, sz := 1, bys := 8, z := some [.nilk 1] } := ⟨by kernel_rfl, by kernel_rfl, fun l h => by injection h with h; subst h; exact ⟨by kernel_rfl, by kernel_rfl, by decide⟩, fun h => by cases h⟩
theorem tok263 : TOk Tryz.prog 263 { k := .fn, sz := 1, bys := 8, z := some [.nilk 1] } := ⟨by kernel_rfl, by kernel_rfl, fun l h => by injection h with h; subst h; exact ⟨by kernel_rfl, by kernel_rfl, by decide⟩, fun h => by cases h⟩
theorem tok264 : TOk Tryz.prog 264 { k := .fn, sz := 1, bys := 8, z := some [.nilk 1] } := ⟨by kernel_rfl, by kernel_rfl, fun l h => by injection h with h; subst h; exact ⟨by kernel_rfl, by kernel_rfl, by decide⟩, fun h => by cases h⟩
theorem tok265 : TOk Tryz.prog 265 { k := .arr 256 4, sz := 256, bys := 256, z := some (List.replicate 256 (.bool false)) } := ⟨by kernel_rfl, by kernel_rfl, fun l h => by injection h with h; subst h; exact ⟨by kernel_rfl, by kernel_rfl, by decide⟩, fun h => by cases h⟩
theorem tok266 : TOk Tryz.prog 266 { k := .arr 256 4, sz := 256, bys := 256, z := some (List.replicate 256 (.bool false)) } := ⟨by kernel_rfl, by kernel_rfl, fun l h => by injection h with h; subst h; exact ⟨by kernel_rfl, by kernel_rfl, by decide⟩, fun h => by cases h⟩
theorem tok268 : TOk Tryz.prog 268 { k := .fn, sz := 1, bys := 8, z := some [.nilk 1] } := ⟨by kernel_rfl, by kernel_rfl, fun l h => by injection h with h; subst h; exact ⟨by kernel_rfl, by kernel_rfl, by decide⟩, fun h => by cases h⟩
theorem tok269 : TOk Tryz.prog 269 { k := .fn, sz := 1, bys := 8, z := some [.nilk 1] } := ⟨by kernel_rfl, by kernel_rfl, fun l h => by injection h with h; subst h; exact ⟨by kernel_rfl, by kernel_rfl, by decide⟩, fun h => by cases h⟩
theorem tok270 : TOk Tryz.prog 270 { k := .fn, sz := 1, bys := 8, z := some [.nilk 1] } := ⟨by kernel_rfl, by kernel_rfl, fun l h => by injection h with h; subst h; exact ⟨by kernel_rfl, by kernel_rfl, by decide⟩, fun h => by cases h⟩
theorem tok271 : TOk Tryz.prog 271 { k := .fn, sz := 1, bys := 8, z := some [.nilk 1] } := ⟨by kernel_rfl, by kernel_rfl, fun l h => by injection h with h; subst h; exact ⟨by kernel_rfl, by kernel_rfl, by decide⟩, fun h => by cases h⟩
theorem tok272 : TOk Tryz.prog 272 { k := .fn, sz := 1, bys := 8, z := some [.nilk 1] } := ⟨by kernel_rfl, by kernel_rfl, fun l h => by injection h with h; subst h; exact ⟨by kernel_rfl, by kernel_rfl, by decide⟩, fun h => by cases h⟩
theorem tok273 : TOk Tryz.prog 273 { k := .map 9 4, sz := 1, bys := 8, z := some [.nilk 0] } := ⟨by kernel_rfl, by kernel_rfl, fun l h => by injection h with h; subst h; exact ⟨by kernel_rfl, by kernel_rfl, by decide⟩, fun h => by cases h⟩
theorem tok274 : TOk Tryz.prog 274 { k := .fn, sz := 1, bys := 8, z := some [.nilk 1] } := ⟨by kernel_rfl, by kernel_rfl, fun l h => by injection h with h; subst h; exact ⟨by kernel_rfl, by kernel_rfl, by decide⟩, fun h => by cases h⟩
theorem tok275 : TOk Tryz.prog 275 { k := .fn, sz := 1, bys := 8, z := some [.nilk 1] } := ⟨by kernel_rfl, by kernel_rfl, fun l h => by injection h with h; subst h; exact ⟨by kernel_rfl, by kernel_rfl, by decide⟩, fun h => by cases h⟩
theorem tok276 : TOk Tryz.prog 276 { k := .fn, sz := 1, bys := 8, z := some [.nilk 1] } := ⟨by kernel_rfl, by kernel_rfl, fun l h => by injection h with h; subst h; exact ⟨by kernel_rfl, by kernel_rfl, by decide⟩, fun h => by cases h⟩
theorem tok277 : TOk Tryz.prog 277 { k := .fn, sz := 1, bys := 8, z := some [.nilk 1] } := ⟨by kernel_rfl, by kernel_rfl, fun l h => by injection h with h; subst h; exact ⟨by kernel_rfl, by kernel_rfl, by decide⟩, fun h => by cases h⟩
theorem tok278 : TOk Tryz.prog 278 { k := .fn, sz := 1, bys := 8, z := some [.nilk 1] } := ⟨by kernel_rfl, by kernel_rfl, fun l h => by injection h with h; subst h; exact ⟨by kernel_rfl, by kernel_rfl, by decide⟩, fun h => by cases h⟩
theorem tok279 : TOk Tryz.prog 279 { k := .fn, sz := 1, bys := 8, z := some [.nilk 1] } := ⟨by kernel_rfl, by kernel_rfl, fun l h => by injection h with h; subst h; exact ⟨by kernel_rfl, by kernel_rfl, by decide⟩, fun h => by cases h⟩
theorem tok280 : TOk Tryz.prog 280 { k := .fn, sz := 1, bys := 8, z := some [.nilk 1] } := ⟨by kernel_rfl, by kernel_rfl, fun l h => by injection h with h; subst h; exact ⟨by kernel_rfl, by kernel_rfl, by decide⟩, fun h => by cases h⟩
theorem tok281 : TOk Tryz.prog 281 { k := .fn, sz := 1, bys := 8, z := some [.nilk 1] } := ⟨by kernel_rfl, by kernel_rfl, fun l h => by injection h with h; subst h; exact ⟨by kernel_rfl, by kernel_rfl, by decide⟩, fun h => by cases h⟩
theorem tok282 : TOk Tryz.prog 282 { k := .fn, sz := 1, bys := 8, z := some [.nilk 1] } := ⟨by kernel_rfl, by kernel_rfl, fun l h => by injection h with h; subst h; exact ⟨by kernel_rfl, by kernel_rfl, by decide⟩, fun h => by cases h⟩
theorem tok283 : TOk Tryz.prog 283 { k := .fn, sz := 1, bys := 8, z := some [.nilk 1] } := ⟨by kernel_rfl, by kernel_rfl, fun l h => by injection h with h; subst h; exact ⟨by kernel_rfl, by kernel_rfl, by decide⟩, fun h => by cases h⟩
theorem tok284 : TOk Tryz.prog 284 { k := .ptr 266, sz := 1, bys := 8, z := some [.nilp] } := ⟨by kernel_rfl, by kernel_rfl, fun l h => by injection h with h; subst h; exact ⟨by kernel_rfl, by kernel_rfl, by decide⟩, fun h => by cases h⟩
theorem tok285 : TOk Tryz.prog 285 { k := .fn, sz := 1, bys := 8, z := some [.nilk 1] } := ⟨by kernel_rfl, by kernel_rfl, fun l h => by injection h with h; subst h; exact ⟨by kernel_rfl, by kernel_rfl, by decide⟩, fun h => by cases h⟩
theorem tok286 : TOk Tryz.prog 286 { k := .fn, sz := 1, bys := 8, z := some [.nilk 1] } := ⟨by kernel_rfl, by kernel_rfl, fun l h => by injection h with h; subst h; exact ⟨by kernel_rfl, by kernel_rfl, by decide⟩, fun h => by cases h⟩
theorem tok287 : TOk Tryz.prog 287 { k := .fn, sz := 1, bys := 8, z := some [.nilk 1] } := ⟨by kernel_rfl, by kernel_rfl, fun l h => by injection h with h; subst h; exact ⟨by kernel_rfl, by kernel_rfl, by decide⟩, fun h => by cases h⟩
theorem tok288 : TOk Tryz.prog 288 { k := .fn, sz := 1, bys := 8, z := some [.nilk 1] } := ⟨by kernel_rfl, by kernel_rfl, fun l h => by injection h with h; subst h; exact ⟨by kernel_rfl, by kernel_rfl, by decide⟩, fun h => by cases h⟩
theorem tok289 : TOk Tryz.prog 289 { k := .fn, sz := 1, bys := 8, z := some [.nilk 1] } := ⟨by kernel_rfl, by kernel_rfl, fun l h => by injection h with h; subst h; exact ⟨by kernel_rfl, by kernel_rfl, by decide⟩, fun h => by cases h⟩
theorem tok290 : TOk Tryz.prog 290 { k := .fn, sz := 1, bys := 8, z := some [.nilk 1] } := ⟨by kernel_rfl, by kernel_rfl, fun l h => by injection h with h; subst h; exact ⟨by kernel_rfl, by kernel_rfl, by decide⟩, fun h => by cases h⟩
theorem tok291 : TOk Tryz.prog 291 { k := .fn, sz := 1, bys := 8, z := some [.nilk 1] } := ⟨by kernel_rfl, by kernel_rfl, fun l h => by injection h with h; subst h; exact ⟨by kernel_rfl, by kernel_rfl, by decide⟩, fun h => by cases h⟩
theorem tok292 : TOk Tryz.prog 292 { k := .fn, sz := 1, bys := 8, z := some [.nilk 1] } := ⟨by kernel_rfl, by kernel_rfl, fun l h => by injection h with h; subst h; exact ⟨by kernel_rfl, by kernel_rfl, by decide⟩, fun h => by cases h⟩
theorem tok293 : TOk Tryz.prog 293 { k := .fn, sz := 1, bys := 8, z := some [.nilk 1] } := ⟨by kernel_rfl, by kernel_rfl, fun l h => by injection h with h; subst h; exact ⟨by kernel_rfl, by kernel_rfl, by decide⟩, fun h => by cases h⟩
theorem tok295 : TOk Tryz.prog 295 { k := .fn, sz := 1, bys := 8, z := some [.nilk 1] } := ⟨by kernel_rfl, by kernel_rfl, fun l h => by injection h with h; subst h; exact ⟨by kernel_rfl, by kernel_rfl, by decide⟩, fun h => by cases h⟩
theorem tok296 : TOk Tryz.prog 296 { k := .fn, sz := 1, bys := 8, z := some [.nilk 1] } := ⟨by kernel_rfl, by kernel_rfl, fun l h => by injection h with h; subst h; exact ⟨by kernel_rfl, by kernel_rfl, by decide⟩, fun h => by cases h⟩
theorem tok297 : TOk Tryz.prog 297 { k := .struct [(0, 17), (1, 17), (2, 17), (3, 9)], sz := 4, bys := 40, z := some [.nilp, .nilp, .nilp, .str []] } := ⟨by kernel_rfl, by kernel_rfl, fun l h => by injection h with h; subst h; exact ⟨by kernel_rfl, by kernel_rfl, by decide⟩, fun h => by cases h⟩
theorem tok298 : TOk Tryz.prog 298 { k := .struct [(0, 17), (1, 17), (2, 17), (3, 9)], sz := 4, bys := 40, z := some [.nilp, .nilp, .nilp, .str []] } := ⟨by kernel_rfl, by kernel_rfl, fun l h => by injection h with h; subst h; exact ⟨by kernel_rfl, by kernel_rfl, by decide⟩, fun h => by cases h⟩
theorem tok299 : TOk Tryz.prog 299 { k := .arr 0 16, sz := 0, bys := 0, z := some (List.replicate 0 (.nilp)) } := ⟨by kernel_rfl, by kernel_rfl, fun l h => by injection h with h; subst h; exact ⟨by kernel_rfl, by kernel_rfl, by decide⟩, fun h => by cases h⟩
theorem tok300 : TOk Tryz.prog 300 { k := .struct [(0, 299)], sz := 0, bys := 0, z := some [] } := ⟨by kernel_rfl, by kernel_rfl, fun l h => by injection h with h; subst h; exact ⟨by kernel_rfl, by kernel_rfl, by decide⟩, fun h => by cases h⟩
theorem tok301 : TOk Tryz.prog 301 { k := .struct [(0, 299)], sz := 0, bys := 0, z := some [] } := ⟨by kernel_rfl, by kernel_rfl, fun l h => by injection h with h; subst h; exact ⟨by kernel_rfl, by kernel_rfl, by decide⟩, fun h => by cases h⟩
theorem tok302 : TOk Tryz.prog 302 { k := .int .u8, sz := 1, bys := 1, z := some [.int .u8 0] } := ⟨by kernel_rfl, by kernel_rfl, fun l h => by injection h with h; subst h; exact ⟨by kernel_rfl, by kernel_rfl, by decide⟩, fun h => by cases h⟩
theorem tok303 : TOk Tryz.prog 303 { k := .int .u8, sz := 1, bys := 1, z := some [.int .u8 0] } := ⟨by kernel_rfl, by kernel_rfl, fun l h => by injection h with h; subst h; exact ⟨by kernel_rfl, by kernel_rfl, by decide⟩, fun h => by cases h⟩
theorem tok304 : TOk Tryz.prog 304 { k := .fn, sz := 1, bys := 8, z := some [.nilk 1] } := ⟨by kernel_rfl, by kernel_rfl, fun l h => by injection h with h; subst h; exact ⟨by kernel_rfl, by kernel_rfl, by decide⟩, fun h => by cases h⟩
theorem tok305 : TOk Tryz.prog 305 { k := .ptr 5, sz := 1, bys := 8, z := some [.nilp] } := ⟨by kernel_rfl, by kernel_rfl, fun l h => by injection h with h; subst h; exact ⟨by kernel_rfl, by kernel_rfl, by decide⟩, fun h => by cases h⟩
theorem tok306 : TOk Tryz.prog 306 { k := .int .i32, sz := 1, bys := 4, z := some [.int .i32 0] } := ⟨by kernel_rfl, by kernel_rfl, fun l h => by injection h with h; subst h; exact ⟨by kernel_rfl, by kernel_rfl, by decide⟩, fun h => by cases h⟩
theorem tok307 : TOk Tryz.prog 307 { k := .int .i32, sz := 1, bys := 4, z := some [.int .i32 0] } := ⟨by kernel_rfl, by kernel_rfl, fun l h => by injection h with h; subst h; exact ⟨by kernel_rfl, by kernel_rfl, by decide⟩, fun h => by cases h⟩
theorem tok308 : TOk Tryz.prog 308 { k := .struct [(0, 12), (1, 12), (2, 237), (3, 302), (4, 5), (5, 5), (6, 303), (7, 304), (8, 305), (9, 306), (10, 307)], sz := 11, bys := 48, z := some [.int .u64 0, .int .u64 0, .int .u32 0, .int .u8 0, .int .u8 0, .int .u8 0, .int .u8 0, .nilk 1, .nilp, .int .i32 0, .int .i32 0] } := ⟨by kernel_rfl, by kernel_rfl, fun l h => by injection h with h; subst h; exact ⟨by kernel_rfl, by kernel_rfl, by decide⟩, fun h => by cases h⟩
theorem tok309 : TOk Tryz.prog 309 { k := .struct [(0, 12), (1, 12), (2, 237), (3, 302), (4, 5), (5, 5), (6, 303), (7, 304), (8, 305), (9, 306), (10, 307)], sz := 11, bys := 48, z := some [.int .u64 0, .int .u64 0, .int .u32 0, .int .u8 0, .int .u8 0, .int .u8 0, .int .u8 0, .nilk 1, .nilp, .int .i32 0, .int .i32 0] } := ⟨by kernel_rfl, by kernel_rfl, fun l h => by injection h with h; subst h; exact ⟨by kernel_rfl, by kernel_rfl, by decide⟩, fun h => by cases h⟩
theorem tabOk : TabOk Tryz.prog Θ := tab_of tl (by
  simp only [tl, List.forall_mem_cons]
  exact ⟨tok1, tok2, tok3, tok4, tok5, tok6, tok7, tok8, tok9, tok10, tok11, tok12, tok13, tok14, tok15, tok16, tok17, tok18, tok19, tok21, tok22, tok23, tok24, tok25, tok26, tok27, tok28, tok29, tok30, tok31, tok33, tok34, tok36, tok37, tok38, tok39, tok40, tok41, tok42, tok43, tok44, tok45, tok46, tok47, tok48, tok50, tok51, tok52, tok54, tok55, tok56, tok57, tok59, tok60, tok61, tok62, tok63, tok64, tok65, tok66, tok67, tok68, tok69, tok70, tok71, tok72, tok73, tok74, tok75, tok76, tok78, tok79, tok80, tok81, tok82, tok83, tok84, tok85, tok86, tok87, tok88, tok89, tok90, tok91, tok92, tok93, tok95, tok96, tok97, tok98, tok99, tok100, tok101, tok102, tok103, tok104, tok105, tok106, tok107, tok108, tok109, tok110, tok111, tok112, tok113, tok114, tok115, tok116, tok117, tok118, tok119, tok120, tok121, tok122, tok123, tok124, tok125, tok127, tok128, tok129, tok130, tok131, tok132, tok133, tok134, tok135, tok136, tok137, tok138, tok139, tok140, tok141, tok143, tok144, tok145, tok147, tok148, tok149, tok150, tok151, tok152, tok153, tok155, tok156, tok157, tok158, tok159, tok160, tok161, tok162, tok163, tok164, tok166, tok167, tok168, tok169, tok170, tok171, tok172, tok173, tok174, tok176, tok177, tok178, tok180, tok181, tok182, tok183, tok184, tok185, tok186, tok187, tok188, tok189, tok191, tok192, tok193, tok194, tok195, tok196, tok197, tok198, tok199, tok201, tok202, tok203, tok204, tok205, tok206, tok207, tok208, tok209, tok210, tok211, tok212, tok213, tok214, tok215, tok216, tok217, tok218, tok219, tok221, tok222, tok225, tok227, tok228, tok229, tok230, tok231, tok232, tok233, tok234, tok235, tok236, tok237, tok238, tok239, tok240, tok241, tok242, tok243, tok244, tok245, tok246, tok247, tok248, tok249, tok250, tok251, tok252, tok253, tok254, tok255, tok256, tok257, tok258, tok259, tok260, tok261, tok262, tok263, tok264, tok265, tok266, tok268, tok269, tok270, tok271, tok272, tok273, tok274, tok275, tok276, tok277, tok278, tok279, tok280, tok281, tok282, tok283, tok284, tok285, tok286, tok287, tok288, tok289, tok290, tok291, tok292, tok293, tok295, tok296, tok297, tok298, tok299, tok300, tok301, tok302, tok303, tok304, tok305, tok306, tok307, tok308, tok309, by simp⟩)

end Go.Proofs.YtmielecljgfnaaaGreat.Abs

/- The row's opening: what is read as data is held by values; its closing: what was read is there still. -/
set_option linter.unusedVariables false
set_option linter.unusedSimpArgs false
namespace Go.Proofs.YtmielecljgfnaaaGreat.Abs
open Go
open Go.ChangeShapes Go.WideShapes Go.ChangeAt Go.RowKit Go.WideElems

def Sof (w : World) : Nat → Prop := fun k => k < w.heap.size
/-- Values, cell by cell. -/
def RdC (w : World) (xs : List D) (cs : List Value) : Prop := cs.length = xs.length ∧ ∀ (i : Nat) (x : D) (v : Value), xs[i]? = some x → cs[i]? = some v → Rd w (Sof w) x v
def D.cl : D → List D
  | .agg xs => xs
  | x => [x]
def D.ok1 : D → Prop
  | .agg xs => xs.all D.leaf = true
  | _ => True
theorem val_of {w : World} {x : D} {cs : List Value} (h : RdC w x.cl cs) (ho : x.ok1) : ∃ v : Value, v.cells.toList = cs ∧ Rd w (Sof w) x v := by
  obtain ⟨h1, h2⟩ := h
  by_cases hx : x.leaf = true
  · have hc : x.cl = [x] := by cases x <;> first | rfl | (simp [D.leaf] at hx)
    rw [hc] at h1 h2
    match cs, h1 with
    | [v], _ =>
      have hr := h2 0 x v rfl rfl
      exact ⟨v, by rw [hr.leaf_cells hx], hr⟩
  · cases x <;> simp [D.leaf] at hx
    rename_i xs
    exact ⟨.agg cs.toArray, by simp [Value.cells], .agg xs cs ho h1 h2⟩
theorem rdC_one {w : World} {x : D} {v : Value} (h : Rd w (Sof w) x v) : RdC w [x] [v] := by
  refine ⟨rfl, fun i y u h1 h2 => ?_⟩
  match i with
  | 0 => simp at h1 h2; subst h1; subst h2; exact h
  | i + 1 => simp at h1
theorem rdC_nil {w : World} {cs : List Value} {o : Nat} (h : cs.length = o) : RdC w [] (cs.drop o) := ⟨by simp [h], fun i x v h => by simp at h⟩
theorem rdC_cat {w : World} {xs ys : List D} {cs : List Value} {o n : Nat} (h1 : RdC w xs ((cs.drop o).take n)) (hn : xs.length = n) (h2 : RdC w ys (cs.drop (o + n))) : RdC w (xs ++ ys) (cs.drop o) := by
  obtain ⟨a1, a2⟩ := h1
  obtain ⟨b1, b2⟩ := h2
  have hl : n ≤ (cs.drop o).length := by simp at a1 ⊢; omega
  have he : cs.drop o = (cs.drop o).take n ++ cs.drop (o + n) := by rw [← List.drop_drop]; exact (List.take_append_drop n _).symm
  refine ⟨by simp at b1 hl ⊢; omega, fun i x v hx hv => ?_⟩
  rcases Nat.lt_or_ge i xs.length with h | h
  · rw [List.getElem?_append_left h] at hx
    exact a2 i x v hx (by rw [List.getElem?_take, if_pos (by omega)]; exact hv)
  · rw [List.getElem?_append_right h] at hx
    refine b2 (i - xs.length) x v hx ?_
    rw [List.getElem?_drop] at hv ⊢
    rw [show o + n + (i - xs.length) = o + i by omega]; exact hv

theorem list_of {α : Type} {Q : Nat → α → Prop} : ∀ n, (∀ i, i < n → ∃ a, Q i a) → ∃ l : List α, l.length = n ∧ ∀ i a, l[i]? = some a → Q i a
  | 0, _ => ⟨[], rfl, by simp⟩
  | n + 1, h => by
    obtain ⟨l, h1, h2⟩ := list_of n fun i hi => h i (by omega)
    obtain ⟨a, ha⟩ := h n (by omega)
    refine ⟨l ++ [a], by simp [h1], fun i b hb => ?_⟩
    rcases Nat.lt_or_ge i l.length with hi | hi
    · rw [List.getElem?_append_left hi] at hb; exact h2 i b hb
    · rw [List.getElem?_append_right hi] at hb
      have : i - l.length = 0 := by
        rcases Nat.eq_zero_or_pos (i - l.length) with h' | h'
        · exact h'
        · rw [List.getElem?_eq_none (by simp; omega)] at hb; cases hb
      rw [this] at hb
      simp at hb
      subst hb
      rw [show i = n by omega]; exact ha
theorem mapM_some {α β : Type} {f : α → Option β} : ∀ {l : List α} {r : List β}, l.mapM f = some r → r.length = l.length ∧ ∀ (i : Nat) (a : α), l[i]? = some a → f a = r[i]?
  | [], r, h => by
    simp at h; subst h; exact ⟨rfl, by simp⟩
  | a :: l, r, h => by
    rw [List.mapM_cons] at h
    simp only [Option.bind_eq_bind, Option.bind_eq_some_iff, Option.pure_def, Option.some.injEq] at h
    obtain ⟨b, hb, r', hr, rfl⟩ := h
    obtain ⟨h1, h2⟩ := mapM_some hr
    refine ⟨by simp [h1], fun i x hx => ?_⟩
    match i with
    | 0 => simp at hx; subst hx; simpa using hb
    | i + 1 => simpa using h2 i x (by simpa using hx)
theorem cells_some {w : World} {b n : Nat} {a : Addr} {cs : List Value} (h : w.cells? b a n = some cs) : cs.length = n ∧ ∀ j, j < n → w.cell? (a.add j) = cs[j]? := by
  unfold World.cells? at h
  split at h
  · obtain ⟨h1, h2⟩ := mapM_some h
    rw [List.length_range] at h1
    exact ⟨h1, fun j hj => h2 j j (by rw [List.getElem?_range hj])⟩
  · cases h

section
variable {H : Type} {enc : TypeId × Value → H} {P : Program} {w : World} {base fuel : Nat} {spare : Nat → Bool} {held : Bool} {t e : TypeId} {cs : List Value} {x : DataW H × List MemPlace}

/-- Elements and their data. -/
def All2 {α : Type} (A : α → DataW H → Prop) (l : List α) (es : List (DataW H)) : Prop := l.length = es.length ∧ ∀ (i : Nat) (a : α) (y : DataW H), l[i]? = some a → es[i]? = some y → A a y
def SlD {α : Type} (A : α → DataW H → Prop) (l : List α) (d : DataW H) : Prop := (d = .nil ∧ l = []) ∨ ∃ es sp, d = .slice es sp ∧ All2 A l es

theorem rd_slice {α : Type} {z : Nat} (encA : α → D) (A : α → DataW H → Prop) (hu : P.underlying t = some (.slice e)) (hz : P.cellsOf e = z) (hz0 : 0 < z) (hzA : ∀ a, (encA a).cl.length = z) (hok : ∀ a, (encA a).ok1)
    (h : DataW.trod enc P w base spare held fuel t cs = some x)
    (he : ∀ n cs x, n < fuel → DataW.trod enc P w base spare held n e cs = some x → ∃ a, RdC w (encA a).cl cs ∧ A a x.1) :
    ∃ l : List α, RdC w [.sl z (l.map encA)] cs ∧ SlD A l x.1 := by
  rcases DataW.trod_slice hu h with ⟨rfl, rfl⟩ | ⟨a, len, cap, elems, rest, n, hf, rfl, rfl, hb, hlc, hcm, hlen, hel, _⟩
  · exact ⟨[], rdC_one (.emp _ _ _ (by omega)), .inl ⟨rfl, rfl⟩⟩
  · rw [hz] at hel
    have key : ∀ i, i < len → ∃ p : α × Value, (∃ cs', w.cells? base (a.add (i * z)) z = some cs' ∧ p.2.cells.toList = cs') ∧ Rd w (Sof w) (encA p.1) p.2 ∧ ∀ y, elems[i]? = some y → A p.1 y.1 := by
      intro i hi
      have h1 := hel i hi
      rw [List.getElem?_eq_getElem (by omega)] at h1
      obtain ⟨cs', h2, h3⟩ := Option.bind_eq_some_iff.1 h1
      obtain ⟨b, h4, h5⟩ := he n cs' _ (by omega) h3
      obtain ⟨v, h6, h7⟩ := val_of h4 (hok b)
      refine ⟨(b, v), ⟨cs', h2, h6⟩, h7, fun y hy => ?_⟩
      rw [List.getElem?_eq_getElem (by omega)] at hy
      injection hy with hy
      rw [← hy]; exact h5
    obtain ⟨l, hl1, hl2⟩ := list_of len key
    refine ⟨l.map (·.1), ?_, .inr ⟨_, _, rfl, by simp [hl1, hlen], fun i b y hb' hy => ?_⟩⟩
    · refine rdC_one ?_
      rcases Nat.eq_zero_or_pos len with h0 | h0
      · have : l = [] := List.eq_nil_of_length_eq_zero (by omega)
        subst this
        subst h0
        exact .emp _ _ _ (by simpa [maxLen] using hcm)
      · have hS : Sof w a.block := by
          obtain ⟨p, ⟨cs', h1, _⟩, _⟩ := key 0 h0
          obtain ⟨h2, h3⟩ := cells_some h1
          have h4 := h3 0 hz0
          rw [List.getElem?_eq_getElem (by omega)] at h4
          have := World.block_lt_of_cell? w _ h4
          rwa [add_block, add_block] at this
        have hlm : ((l.map (·.1)).map encA).length = len := by simp [hl1]
        rw [← hlm]
        refine .sl z _ a cap (l.map (·.2)) (by omega) (by simpa [maxLen] using hcm) hS (by simp [hl1]) (fun i y v hy hv => ?_) (fun i v hv => ?_) (fun i j v u hv hu' => ?_)
        · rw [List.getElem?_map, List.getElem?_map] at hy
          rw [List.getElem?_map] at hv
          cases hp : l[i]? with
          | none => rw [hp] at hv; cases hv
          | some p =>
            rw [hp] at hy hv
            simp at hy hv
            subst hy; subst hv
            exact (hl2 i p hp).2.1
        · rw [List.getElem?_map] at hv
          obtain ⟨p, hp, rfl⟩ := Option.map_eq_some_iff.1 hv
          obtain ⟨⟨cs', h1, h2⟩, _, _⟩ := hl2 i p hp
          have := (cells_some h1).1
          rw [← h2] at this
          simpa using this
        · rw [List.getElem?_map] at hv
          obtain ⟨p, hp, rfl⟩ := Option.map_eq_some_iff.1 hv
          obtain ⟨⟨cs', h1, h2⟩, _, _⟩ := hl2 i p hp
          obtain ⟨h3, h4⟩ := cells_some h1
          have hj : j < p.2.cells.size := (Array.getElem?_eq_some_iff.1 hu').1
          have hjz : j < z := by
            rw [← h2] at h3
            simp at h3
            omega
          have h5 := h4 j hjz
          rw [Addr_add_add] at h5
          rw [h5, ← h2]
          simpa using hu'
    · rw [List.getElem?_map] at hb' hy
      obtain ⟨p, hp, rfl⟩ := Option.map_eq_some_iff.1 hb'
      obtain ⟨q, hq, rfl⟩ := Option.map_eq_some_iff.1 hy
      exact (hl2 i p hp).2.2 q hq

theorem rd_int {k : IntKind} (hu : P.underlying t = some (.int k)) (h : DataW.trod enc P w base spare held fuel t cs = some x) : ∃ n, RdC w [.int k n] cs ∧ x.1 = .lit (.int k n) ∧ (Lit.int k n).wf = true := by
  obtain ⟨n, rfl, rfl, hw⟩ := DataW.trod_int hu h
  exact ⟨n, rdC_one (.int _ _), rfl, hw⟩
theorem rd_bool (hu : P.underlying t = some .bool) (h : DataW.trod enc P w base spare held fuel t cs = some x) : ∃ b, RdC w [.bool b] cs ∧ x.1 = .lit (.bool b) := by
  obtain ⟨b, rfl, rfl⟩ := DataW.trod_bool hu h
  exact ⟨b, rdC_one (.bool _), rfl⟩
theorem rd_str (hu : P.underlying t = some .string) (h : DataW.trod enc P w base spare held fuel t cs = some x) : ∃ s : List UInt8, RdC w [.str s] cs ∧ x.1 = .lit (.string s) := by
  obtain ⟨s, rfl, rfl, hs⟩ := DataW.trod_string hu h
  refine ⟨s.data.toList, rdC_one ?_, rfl⟩
  have he : (⟨s.data.toList.toArray⟩ : ByteArray) = s := by
    apply ByteArray.ext
    simp
  have := Rd.str (w := w) (S := Sof w) s.data.toList (by
    have hl : s.data.toList.length = s.size := by rw [Array.length_toList]; rfl
    unfold maxLen at hs; omega)
  rwa [he] at this
/-- A struct's fields. -/
theorem rd_struct {i : TI} {fs : List (Nat × Nat)} (hT : TOk P t i) (hk : i.k = .struct fs) (h : DataW.trod enc P w base spare held fuel t cs = some x) :
    ∃ (xs : List (DataW H × List MemPlace)) (n : Nat), n < fuel ∧ x.1 = .agg (xs.map (·.1)) ∧ cs.length = P.cellsOf t ∧ xs.length = fs.length ∧
      ∀ (i : Nat) (f : Nat × Nat), fs[i]? = some f → DataW.trod enc P w base spare held n f.2 ((cs.drop f.1).take (P.cellsOf f.2)) = xs[i]? := by
  obtain ⟨F, hF, rfl, _⟩ := hT.struct hk
  obtain ⟨xs, n, hf, hx, hl, hlen, hfs⟩ := DataW.trod_struct hF h
  refine ⟨xs, n, by omega, by rw [hx], hl, by simp [hlen], fun j f hj => ?_⟩
  rw [List.getElem?_map] at hj
  obtain ⟨g, hg, rfl⟩ := Option.map_eq_some_iff.1 hj
  exact hfs j g (by simpa using hg)
end

theorem rdv_one {P : Program} {w W : World} {r : Reach} {base : Nat} {t : TypeId} {i : TI} {x : D} {v : Value} (h : Value.okWide P W r base t v) (hT : TOk P t i) (hk : i.k.agg = false) (hc : RdC w [x] v.cells.toList) : Rd w (Sof w) x v := by
  have hne : ∀ cs, v ≠ .agg cs := by
    rintro cs rfl
    have hk2 := hT.k
    unfold tkOf at hk2
    unfold Value.okWide Cell.okWide Cell.ok at h
    cases hu : P.underlying t with
    | none => rw [hu] at h; simp at h
    | some d =>
      rw [hu] at h hk2
      cases d <;> simp at h hk2
      all_goals first
        | (rw [← hk2] at hk; cases hk)
        | (rw [← hk2.2] at hk; cases hk)
  have hv : v.cells = #[v] := by
    cases v <;> first | rfl | exact absurd rfl (hne _)
  rw [hv] at hc
  exact hc.2 0 x v rfl rfl
/-! ### the close -/
section
variable {H : Type} {enc : TypeId × Value → H} {P : Program}
theorem post_of_below {f : Func} {s : ChangeSpec} {apart fresh handsOn again : Bool} {W W' : World} {args : Array Value} {v : Value} {ds gs : List (DataW H)} {before pa pv : List MemPlace}
    (hW : DataW.Whole enc P f.params.toList s.vars apart W args.toList ds gs before)
    (hres : ∀ (b : Nat) (sp : Nat → Bool) (hd : Bool), DataW.TrodAll enc P W' b sp hd f.resultTypes.toList (v.resultList f.resultTypes.size) (s.fn H (ds ++ gs)).results [])
    (hargs : ∀ sp : Nat → Bool, (∀ p ∈ before, sp p.block = true) → DataW.TrodAll enc P W' 0 sp true f.params.toList args.toList (s.fn H (ds ++ gs)).args pa)
    (hvars : ∀ sp : Nat → Bool, (∀ p ∈ before, sp p.block = true) → DataW.TrodVars enc P W' sp s.vars (s.fn H (ds ++ gs)).vars pv)
    (hps : before = pa ++ pv) (hb : Below W.heap.size W W')
    (hok : ∀ (j : Nat) (t : TypeId) (r : Value), f.resultTypes[j]? = some t → (v.resultList f.resultTypes.size)[j]? = some r → Value.okWide P W' .any 0 t r) :
    s.post enc P f apart fresh handsOn again W args v W' := by
  have hlt : ∀ p ∈ before, p.block < W.heap.size := fun p hp => hW.lt p hp
  have hold : ∀ p ∈ before, (fun b => decide (b < W.heap.size)) p.block = true := fun p hp => by simpa using hlt p hp
  refine ⟨ds, gs, before, [], pa, pv, hW, hres _ _ _, hargs _ hold, hvars _ hold, World.keptBut_mono (fun p hp => ⟨hp, ?_⟩) (hb.frame (· ∈ before)), fun _ => ?_⟩
  · rw [hps, List.mem_append] at hp
    exact Or.inr hp
  · obtain ⟨_, _, _, _, _, hz, hn⟩ := hW
    refine ⟨hok, _, _, ([] ++ pa) ++ pv, ⟨[] ++ pa, pv, trodAll_append (hargs _ (fun _ _ => rfl)) (hres _ _ _), hvars _ (fun _ _ => rfl), rfl, ?_, ?_⟩, ?_⟩
    · intro b off hp
      have hin : MemPlace.cell b off ∈ before := by rw [hps]; simpa using hp
      rw [hb.frozen (hlt _ hin)]
      exact hz b off hin
    · intro ha
      have := hn ha
      rw [hps] at this
      simpa using this
    · intro p hp _
      rw [hps]
      simpa using hp
theorem trodAll_stays (hl : laidOutB P = true) {W W' : World} (hb : Below W.heap.size W W') : ∀ {ts : List TypeId} {vs : List Value} {ds : List (DataW H)} {ps : List MemPlace} {sp : Nat → Bool}, (ts.all fun t => P.readableRec t && decide (t < P.types.size)) = true →
    DataW.TrodAll enc P W 0 (fun _ => true) true ts vs ds ps → (∀ p ∈ ps, sp p.block = true) → (∀ p ∈ ps, p.block < W.heap.size) → DataW.TrodAll enc P W' 0 sp true ts vs ds ps
  | [], vs, ds, ps, sp, _, h, _, _ => by
    obtain ⟨rfl, rfl, rfl⟩ := trodAll_nil h
    rfl
  | t :: ts, vs, ds, ps, sp, ht, h, hs, hlt => by
    obtain ⟨v, vs', d, ds', p, q, rfl, rfl, rfl, h1, h2⟩ := trodAll_cons h
    simp only [List.all_cons, Bool.and_eq_true, decide_eq_true_eq] at ht
    exact trodAll_cons_mk (Trod_stays hl ht.1.1 ht.1.2 h1 (fun x hx => hb.same (hlt x (by simp [hx]))) fun x hx => hs x (by simp [hx])) (trodAll_stays hl hb ht.2 h2 (fun x hx => hs x (by simp [hx])) fun x hx => hlt x (by simp [hx]))
/-- A law that answers yes, called. -/
theorem calls_of_spec {f : FuncId} {fn : Func} {W : World} {vs : List Value} {ds : List D} (hfn : P.funcs[f]? = some fn) (hbody : fn.body.isSome = true) (hname : (fn.name == "runtime.NumGoroutine") = false) (h : PSpec P f (ds.map .d) (.d (.bool true))) (hr : vs.length = ds.length ∧ ∀ (i : Nat) (x : D) (v : Value), ds[i]? = some x → vs[i]? = some v → Rd W (Sof W) x v) :
    Calls P f vs.toArray W fun e W' => e = .returned (.bool true) ∧ Below W.heap.size W W' := by
  have hsto : Sto W (Sof W) (fun _ => undef) (fun _ => none) 0 := ⟨fun k hk => hk, by simp, by simp, by simp, by simp, by simp, by simp⟩
  have hd := h (fun _ => none) 0 W (Sof W) (fun _ => undef) vs hsto (by simp [hr.1]) (fun i c v hc hv => by
    rw [List.getElem?_map] at hc
    obtain ⟨x, hx, rfl⟩ := Option.map_eq_some_iff.1 hc
    exact .d _ _ (hr.2 i x v hx hv)) (lts_of fun i c hc => by
      rw [List.getElem?_map] at hc
      obtain ⟨x, hx, rfl⟩ := Option.map_eq_some_iff.1 hc
      trivial)
  obtain ⟨b, hb⟩ := Option.isSome_iff_exists.1 hbody
  have hcf : (callFunc f vs.toArray).run P W = .ok (.enter f vs.toArray) W := by
    simp only [beq_eq_false_iff_ne, ne_eq] at hname
    simp [callFunc, hfn, hb, hname]
  unfold Does at hd
  rw [hcf] at hd
  refine hd.mono ?_
  rintro e W' ⟨v, rfl, r, o', nk', S', γ', ⟨rfl, rfl, rfl⟩, hs, ht, hsr, hl⟩
  refine ⟨?_, ht.os, ht.tape, ht.output, ht.size, fun k hk => ht.kept k hk ?_⟩
  · cases hsr with
    | d _ _ hrd => cases hrd; rfl
  · rintro ⟨t, y, hy, _⟩
    cases hy
end
end Go.Proofs.YtmielecljgfnaaaGreat.Abs

/- Data of a type: what is read of an argument whose type has numbers, truths, texts, structs and slices of these. -/
set_option linter.unusedVariables false
set_option linter.unusedSimpArgs false
namespace Go.Proofs.YtmielecljgfnaaaGreat.Abs
open Go
open Go.ChangeShapes Go.WideShapes Go.ChangeAt Go.RowKit Go.WideElems

mutual
/-- Cells of a type. -/
inductive Has (Θ : Tab) : Nat → List D → Prop
  | int {t : Nat} {i : TI} {k : IntKind} (h : Θ t = some i) (hk : i.k = .int k) (n : Int) (hw : (Lit.int k n).wf = true) : Has Θ t [.int k n]
  | bool {t : Nat} {i : TI} (h : Θ t = some i) (hk : i.k = .bool) (b : Bool) : Has Θ t [.bool b]
  | str {t : Nat} {i : TI} (h : Θ t = some i) (hk : i.k = .str) (s : Str) : Has Θ t [.str s]
  | slice {t e : Nat} {i j : TI} (h : Θ t = some i) (hk : i.k = .slice e) (hj : Θ e = some j) (xs : List D) (hx : ∀ x ∈ xs, Has Θ e x.cl) (hz : ∀ x ∈ xs, x.cl.length = j.sz) (ho : ∀ x ∈ xs, x.ok1) : Has Θ t [.sl j.sz xs]
  | struct {t : Nat} {i : TI} {fs : List (Nat × Nat)} {ds : List D} (h : Θ t = some i) (hk : i.k = .struct fs) (hl : ds.length = i.sz) (hf : HasF Θ fs 0 ds) : Has Θ t ds
inductive HasF (Θ : Tab) : List (Nat × Nat) → Nat → List D → Prop
  | nil (o : Nat) : HasF Θ [] o []
  | cons {ft o : Nat} {fs : List (Nat × Nat)} {xs ys : List D} (h : Has Θ ft xs) (hr : HasF Θ fs (o + xs.length) ys) : HasF Θ ((o, ft) :: fs) o (xs ++ ys)
end
/-- Every leaf is one cell. -/
theorem all_leaf_app {xs ys : List D} (h1 : xs.all D.leaf = true) (h2 : ys.all D.leaf = true) : (xs ++ ys).all D.leaf = true := by
  rw [List.all_append, h1, h2]; rfl
mutual
theorem Has.leaf {Θ : Tab} : ∀ {t : Nat} {ds : List D}, Has Θ t ds → ds.all D.leaf = true
  | _, _, .int _ _ _ _ => rfl
  | _, _, .bool _ _ _ => rfl
  | _, _, .str _ _ _ => rfl
  | _, _, .slice _ _ _ _ _ _ _ => rfl
  | _, _, .struct _ _ _ hf => hf.leaf
theorem HasF.leaf {Θ : Tab} : ∀ {fs : List (Nat × Nat)} {o : Nat} {ds : List D}, HasF Θ fs o ds → ds.all D.leaf = true
  | _, _, _, .nil _ => rfl
  | _, _, _, .cons h hr => all_leaf_app h.leaf hr.leaf
end

def laidT (Θ : Tab) : List (Nat × Nat) → Nat → Nat → Bool
  | [], o, n => decide (o = n)
  | (off, ft) :: fs, o, n => decide (off = o) && match Θ ft with
    | none => false
    | some j => laidT Θ fs (o + j.sz) n
/-- A type whose parts are among these. -/
def kidsT (Θ : Tab) (S : List Nat) (t : Nat) : Bool :=
  match Θ t with
  | none => false
  | some i => match i.k with
    | .int _ => decide (i.sz = 1)
    | .bool => decide (i.sz = 1)
    | .str => decide (i.sz = 1)
    | .slice e => (S.contains e && decide (i.sz = 1)) && match Θ e with
      | none => false
      | some j => decide (0 < j.sz)
    | .struct fs => (fs.all fun f => S.contains f.2) && laidT Θ fs 0 i.sz
    | _ => false
section
variable {H : Type} {enc : TypeId × Value → H} {P : Program} {Θ : Tab} {w : World} {base fuel n : Nat} {spare : Nat → Bool} {held : Bool} {cs : List Value} {x : DataW H × List MemPlace} {S : List Nat}
def Opened (Θ : Tab) (w : World) (t : Nat) (cs : List Value) : Prop := ∃ d : D, RdC w d.cl cs ∧ Has Θ t d.cl ∧ d.ok1 ∧ ∀ i, Θ t = some i → d.cl.length = i.sz
theorem open_fields (hΘ : TabOk P Θ) {sz : Nat} (ih : ∀ t cs x, t ∈ S → DataW.trod enc P w base spare held n t cs = some x → Opened Θ w t cs) (hcs : cs.length = sz) : ∀ (fs : List (Nat × Nat)) (o : Nat) (ys : List (DataW H × List MemPlace)), ys.length = fs.length →
    (∀ (i : Nat) (f : Nat × Nat), fs[i]? = some f → DataW.trod enc P w base spare held n f.2 ((cs.drop f.1).take (P.cellsOf f.2)) = ys[i]?) → (fs.all fun f => S.contains f.2) = true → laidT Θ fs o sz = true →
    ∃ ds, RdC w ds (cs.drop o) ∧ HasF Θ fs o ds ∧ ds.length + o = sz
  | [], o, ys, _, _, _, hl => by
    simp only [laidT, decide_eq_true_eq] at hl
    exact ⟨[], rdC_nil (by omega), .nil _, by simpa using hl⟩
  | (off, ft) :: fs, o, ys, hy, hf, hS, hl => by
    simp only [laidT, Bool.and_eq_true, decide_eq_true_eq] at hl
    obtain ⟨rfl, hl⟩ := hl
    simp only [List.all_cons, Bool.and_eq_true] at hS
    cases ys with
    | nil => simp at hy
    | cons y ys =>
      have h0 := hf 0 (off, ft) rfl
      simp only [List.getElem?_cons_zero] at h0
      obtain ⟨d, h1, h2, h3, h4⟩ := ih ft _ y (by simpa using hS.1) h0
      cases hj : Θ ft with
      | none => rw [hj] at hl; cases hl
      | some j =>
        rw [hj] at hl
        have hd := h4 j hj
        rw [(hΘ ft j hj).cells] at h1
        obtain ⟨ds, k1, k2, k3⟩ := open_fields hΘ ih hcs fs (off + j.sz) ys (by simpa using hy) (fun i f hi => by simpa using hf (i + 1) f (by simpa using hi)) hS.2 hl
        refine ⟨d.cl ++ ds, rdC_cat h1 hd k1, .cons h2 (by rw [hd]; exact k2), ?_⟩
        rw [List.length_append]; omega
theorem open_any (hΘ : TabOk P Θ) (hS : ∀ t ∈ S, kidsT Θ S t = true) : ∀ (fuel : Nat) (t : Nat) (cs : List Value) (x : DataW H × List MemPlace), t ∈ S → DataW.trod enc P w base spare held fuel t cs = some x → Opened Θ w t cs := by
  intro fuel
  induction fuel using Nat.strongRecOn with
  | _ fuel ih =>
    intro t cs x ht h
    have hk := hS t ht
    unfold kidsT at hk
    split at hk
    · cases hk
    · rename_i i hi
      have hT := hΘ t i hi
      split at hk
      · rename_i k hik
        obtain ⟨m, h1, h2, h3⟩ := rd_int (hT.int hik) h
        refine ⟨.int k m, h1, .int hi hik m h3, trivial, fun i' hi' => ?_⟩
        rw [hi] at hi'; injection hi' with e; subst e
        simpa [D.cl] using (of_decide_eq_true hk).symm
      · rename_i hik
        obtain ⟨b, h1, h2⟩ := rd_bool (hT.bool hik) h
        refine ⟨.bool b, h1, .bool hi hik b, trivial, fun i' hi' => ?_⟩
        rw [hi] at hi'; injection hi' with e; subst e
        simpa [D.cl] using (of_decide_eq_true hk).symm
      · rename_i hik
        obtain ⟨b, h1, h2⟩ := rd_str (hT.str hik) h
        refine ⟨.str b, h1, .str hi hik b, trivial, fun i' hi' => ?_⟩
        rw [hi] at hi'; injection hi' with e; subst e
        simpa [D.cl] using (of_decide_eq_true hk).symm
      · rename_i e hik
        simp only [Bool.and_eq_true] at hk
        obtain ⟨he, hk⟩ := hk
        split at hk
        · cases hk
        · rename_i j hj
          have hpos : 0 < j.sz := by simpa using hk
          obtain ⟨l, h1, h2⟩ := rd_slice (α := { d : D // d.cl.length = j.sz ∧ d.ok1 }) (z := j.sz) (fun a => a.1) (fun a _ => Has Θ e a.1.cl) (hT.slice hik) (hΘ e j hj).cells hpos (fun a => a.2.1) (fun a => a.2.2) h fun n cs x hn h => by
            obtain ⟨d, k1, k2, k3, k4⟩ := ih n hn e cs x (by simpa using he.1) h
            exact ⟨⟨d, k4 j hj, k3⟩, k1, k2⟩
          refine ⟨.sl j.sz (l.map fun (a : { d : D // d.cl.length = j.sz ∧ d.ok1 }) => a.1), h1, .slice hi hik hj _ ?_ ?_ ?_, trivial, fun i' hi' => ?_⟩
          · intro y hy
            obtain ⟨a, ha, rfl⟩ := List.mem_map.1 hy
            rcases h2 with ⟨_, rfl⟩ | ⟨es, sp, _, g1, g2⟩
            · cases ha
            · obtain ⟨q, hq, rfl⟩ := List.mem_iff_getElem.1 ha
              exact g2 q _ _ (List.getElem?_eq_getElem hq) (List.getElem?_eq_getElem (by rw [← g1]; exact hq))
          · intro y hy
            obtain ⟨a, ha, rfl⟩ := List.mem_map.1 hy
            exact a.2.1
          · intro y hy
            obtain ⟨a, ha, rfl⟩ := List.mem_map.1 hy
            exact a.2.2
          · rw [hi] at hi'; injection hi' with e; subst e
            simpa [D.cl] using (of_decide_eq_true he.2).symm
      · rename_i fs hik
        simp only [Bool.and_eq_true] at hk
        obtain ⟨xs, n, hn, hx, hl, hyl, hf⟩ := rd_struct hT hik h
        have hl2 : cs.length = i.sz := by rw [hl, hT.cells]
        obtain ⟨ds, h1, h2, h3⟩ := open_fields hΘ (fun t cs x ht h => ih n hn t cs x ht h) hl2 fs 0 xs hyl hf hk.1 hk.2
        have hds : ds.length = i.sz := by omega
        refine ⟨.agg ds, by simpa [D.cl] using h1, .struct hi hik hds h2, h2.leaf, fun i' hi' => ?_⟩
        rw [hi] at hi'; injection hi' with e; subst e
        exact hds
      · cases hk
end
/-- What cells of a type look like. -/
def Looks (Θ : Tab) (i : TI) (ds : List D) : Prop :=
  match i.k with
  | .int k => ∃ n, ds = [.int k n] ∧ (Lit.int k n).wf = true
  | .bool => ∃ b, ds = [.bool b]
  | .str => ∃ s, ds = [.str s]
  | .slice e => ∃ j xs, Θ e = some j ∧ ds = [.sl j.sz xs] ∧ (∀ x ∈ xs, Has Θ e x.cl) ∧ (∀ x ∈ xs, x.cl.length = j.sz) ∧ ∀ x ∈ xs, x.ok1
  | .struct fs => HasF Θ fs 0 ds ∧ ds.length = i.sz
  | _ => True
theorem Has.looks {Θ : Tab} {t : Nat} {i : TI} {ds : List D} (h : Has Θ t ds) (hi : Θ t = some i) : Looks Θ i ds := by
  unfold Looks
  cases h with
  | int h2 hk n hw => rw [h2] at hi; injection hi with e; subst e; rw [hk]; exact ⟨n, rfl, hw⟩
  | bool h2 hk b => rw [h2] at hi; injection hi with e; subst e; rw [hk]; exact ⟨b, rfl⟩
  | str h2 hk s => rw [h2] at hi; injection hi with e; subst e; rw [hk]; exact ⟨s, rfl⟩
  | slice h2 hk hj xs hx hz ho => rw [h2] at hi; injection hi with e; subst e; rw [hk]; exact ⟨_, xs, hj, rfl, hx, hz, ho⟩
  | struct h2 hk hl hf => rw [h2] at hi; injection hi with e; subst e; rw [hk]; exact ⟨hf, hl⟩
theorem HasF.one {Θ : Tab} {ft o : Nat} {fs : List (Nat × Nat)} {ds : List D} {o2 : Nat} (h : HasF Θ ((o, ft) :: fs) o2 ds) : ∃ xs ys, ds = xs ++ ys ∧ Has Θ ft xs ∧ HasF Θ fs (o + xs.length) ys := by
  cases h with
  | cons h hr => exact ⟨_, _, rfl, h, hr⟩
theorem HasF.none {Θ : Tab} {o : Nat} {ds : List D} (h : HasF Θ [] o ds) : ds = [] := by cases h; rfl
end Go.Proofs.YtmielecljgfnaaaGreat.Abs

set_option linter.unusedVariables false
set_option linter.unusedSimpArgs false
namespace Go.Proofs.YtmielecljgfnaaaGreat.Abs
open Go
section
variable {P : Program} {Θ : Tab} {K : SV → (Nat → Option AO) → Nat → Prop} {sl : Nat → SV} {o : Nat → Option AO} {nk : Nat} {x y ix : Operand} {t e f : Nat}
end
section
variable {P : Program} {Θ : Tab} {ops : Array Oper} {K : St → Prop} {r : List Oper} {sl : Nat → SV} {d ty j lo m nk nk' : Nat} {o o' : Nat → Option AO} {op : Op} {pos : String} {af : Array Edge} {want c : Bool} {v : SV} {L : List Ob} {ks : List Kd}
end
end Go.Proofs.YtmielecljgfnaaaGreat.Abs

/- A run of the operations that is computed: tries, one operation. -/
set_option linter.unusedVariables false
set_option linter.unusedSimpArgs false
namespace Go.Proofs.YtmielecljgfnaaaGreat.Abs
open Go

inductive TM (α : Type) where
  | e
  | n (v : Option α) (l r : TM α)
namespace TM
variable {α : Type}
def get : TM α → Nat → Option α
  | .e, _ => none
  | .n v _ _, 0 => v
  | .n _ l r, k + 1 => bif Nat.beq (k % 2) 0 then get l (k / 2) else get r (k / 2)
def seq {β : Type} (t : TM α) (k : TM α → β) : β := match t with
  | .e => k .e
  | .n v l r => k (.n v l r)
theorem seq_eq {β : Type} (t : TM α) (k : TM α → β) : seq t k = k t := by cases t <;> rfl
def put (v : Option α) : Nat → TM α → Nat → TM α
  | 0, t, _ => t
  | _ + 1, .e, 0 => .n v .e .e
  | _ + 1, .n _ l r, 0 => .n v l r
  | d + 1, .e, k + 1 => bif Nat.beq (k % 2) 0 then seq (put v d .e (k / 2)) fun l => .n none l .e else seq (put v d .e (k / 2)) fun r => .n none .e r
  | d + 1, .n u l r, k + 1 => bif Nat.beq (k % 2) 0 then seq (put v d l (k / 2)) fun l => .n u l r else seq (put v d r (k / 2)) fun r => .n u l r
theorem beq_cond {a b : Nat} {β : Type} (x y : β) : (bif Nat.beq a b then x else y) = if a = b then x else y := by
  by_cases h : a = b
  · subst h; simp
  · have : Nat.beq a b = false := by
      cases hb : Nat.beq a b with
      | false => rfl
      | true => exact absurd (Nat.eq_of_beq_eq_true hb) h
    rw [this, if_neg h]; rfl
theorem get_put (v : Option α) : ∀ (d : Nat) (t : TM α) (k i : Nat), k < d → (put v d t k).get i = if i = k then v else t.get i
  | 0, _, _, _, h => by omega
  | d + 1, .e, 0, i, _ => by
    cases i with
    | zero => simp [put, get]
    | succ i => simp only [put, get, beq_cond]; simp
  | d + 1, .n u l r, 0, i, _ => by
    cases i with
    | zero => simp [put, get]
    | succ i => simp only [put, get, beq_cond]; simp
  | d + 1, .e, k + 1, i, h => by
    have ih := get_put v d .e (k / 2)
    simp only [put, beq_cond, seq_eq]
    cases i with
    | zero => split <;> simp [get]
    | succ i =>
      split
      · simp only [get, beq_cond, ih _ (show k / 2 < d by omega)]
        split
        · by_cases hc : i / 2 = k / 2
          · rw [if_pos hc, if_pos (by omega)]
          · rw [if_neg hc, if_neg (by omega)]
        · rw [if_neg (by omega)]
      · simp only [get, beq_cond, ih _ (show k / 2 < d by omega)]
        split
        · rw [if_neg (by omega)]
        · by_cases hc : i / 2 = k / 2
          · rw [if_pos hc, if_pos (by omega)]
          · rw [if_neg hc, if_neg (by omega)]
  | d + 1, .n u l r, k + 1, i, h => by
    have ih1 := get_put v d l (k / 2)
    have ih2 := get_put v d r (k / 2)
    simp only [put, beq_cond, seq_eq]
    cases i with
    | zero => split <;> simp [get]
    | succ i =>
      split
      · simp only [get, beq_cond, ih1 _ (show k / 2 < d by omega)]
        split
        · by_cases hc : i / 2 = k / 2
          · rw [if_pos hc, if_pos (by omega)]
          · rw [if_neg hc, if_neg (by omega)]
        · rw [if_neg (by omega)]
      · simp only [get, beq_cond, ih2 _ (show k / 2 < d by omega)]
        split
        · rw [if_neg (by omega)]
        · by_cases hc : i / 2 = k / 2
          · rw [if_pos hc, if_pos (by omega)]
          · rw [if_neg hc, if_neg (by omega)]
def set (t : TM α) (k : Nat) (v : Option α) : TM α := put v (k + 1) t k
theorem get_set (t : TM α) (k : Nat) (v : Option α) : (t.set k v).get = upd t.get k v := by
  funext i
  unfold set upd
  exact get_put v _ t k i (by omega)
def mapT (f : α → α) : TM α → TM α
  | .e => .e
  | .n v l r => seq (mapT f l) fun l => seq (mapT f r) fun r => match v with
    | none => .n none l r
    | some x => .n (some (f x)) l r
theorem get_mapT (f : α → α) : ∀ (t : TM α) (i : Nat), (mapT f t).get i = (t.get i).map f
  | .e, i => rfl
  | .n v l r, i => by
    have h1 := get_mapT f l
    have h2 := get_mapT f r
    simp only [mapT, seq_eq]
    cases v <;> cases i with
    | zero => rfl
    | succ i => simp only [get, beq_cond]; split <;> simp [h1, h2]
def ofList (l : List α) : TM α := go l 0 .e
where go : List α → Nat → TM α → TM α
  | [], _, t => t
  | x :: l, i, t => go l (i + 1) (t.set i (some x))
theorem ofList_go : ∀ (l : List α) (k : Nat) (t : TM α) (i : Nat), (ofList.go l k t).get i = if k ≤ i ∧ i < k + l.length then l[i - k]? else t.get i
  | [], k, t, i => by simp only [ofList.go, List.length_nil]; rw [if_neg (by omega)]
  | x :: l, k, t, i => by
    simp only [ofList.go, ofList_go l, get_set, upd, List.length_cons]
    by_cases h1 : k + 1 ≤ i ∧ i < k + 1 + l.length
    · rw [if_pos h1, if_pos (by omega), show i - k = (i - (k + 1)) + 1 by omega, List.getElem?_cons_succ]
    · rw [if_neg h1]
      by_cases h2 : i = k
      · subst h2; rw [if_pos rfl, if_pos (by omega)]; simp
      · rw [if_neg h2, if_neg (by omega)]
theorem get_ofList (l : List α) (i : Nat) : (ofList l).get i = l[i]? := by
  unfold ofList
  rw [ofList_go]
  by_cases h : i < l.length
  · rw [if_pos (by omega)]; simp
  · rw [if_neg (by omega), List.getElem?_eq_none (by omega)]; rfl
end TM

/-- A state that is computed. -/
structure XS where
  sl : TM SV
  o : TM AO
  nk : Nat
def XS.st (s : XS) : St := ⟨fun u => (s.sl.get u).getD .any, s.o.get, s.nk⟩
abbrev XR := SV × TM AO × Nat

section
variable (Θ : Tab) (call : Nat → List SV → TM AO → Nat → Option XR)
def xbn (o : Nat → Option AO) (op : BinOp) (t : TypeId) (x y : SV) : Option D :=
  match x, y with
  | .d (.int k a), .d (.int k' b) => match op with
    | .shl => shBin .shl k a b
    | .shr => shBin .shr k a b
    | op => if k = k' then intBin op k a b else none
  | .d (.str a), .d (.str b) => strBin op a b
  | .d (.bool a), .d (.bool b) => match Θ t with
    | some i => match i.k with
      | .bool => match op with
        | .eql => some (.bool (a == b))
        | .neq => some (.bool (!(a == b)))
        | _ => none
      | _ => none
    | none => none
  | .d .nil, .d .nil => match Θ t with
    | some i => match i.k with
      | .slice _ => match op with
        | .eql => some (.bool true)
        | .neq => some (.bool false)
        | _ => none
      | _ => none
    | none => none
  | .d (.sl _ (_ :: _)), .d .nil => match Θ t with
    | some i => match i.k with
      | .slice _ => match op with
        | .eql => some (.bool false)
        | .neq => some (.bool true)
        | _ => none
      | _ => none
    | none => none
  | .d .nilp, .d .nilp => match Θ t with
    | some i => match i.k with
      | .ptr _ => match op with
        | .eql => some (.bool true)
        | .neq => some (.bool false)
        | _ => none
      | _ => none
    | none => none
  | .loc q _, .d .nilp => match Θ t with
    | some i => match i.k with
      | .ptr _ => match o q with
        | some (.box _) => match op with
          | .eql => some (.bool false)
          | .neq => some (.bool true)
          | _ => none
        | _ => none
      | _ => none
    | none => none
  | _, _ => none
theorem xbn_ok {o : Nat → Option AO} {op : BinOp} {t : TypeId} {x y : SV} {r : D} (h : xbn Θ o op t x y = some r) {K : SV → Prop} (hK : K (.d r)) : bnOp Θ o op t x y K := by
  unfold xbn at h
  split at h
  · split at h
    · exact ⟨r, h, hK⟩
    · exact ⟨r, h, hK⟩
    · split at h
      · rename_i he
        unfold bnOp
        simp only
        exact ⟨he, r, h, hK⟩
      · cases h
  · exact ⟨r, h, hK⟩
  all_goals (repeat' (split at h)) <;> first | (cases h; done) | (simp only [Option.some.injEq] at h; subst h; simp_all [bnOp])

def xld (o : Nat → Option AO) (t : TypeId) (x : SV) : Option SV :=
  match Θ t with
  | none => none
  | some i => match x with
    | .loc k f => match o k with
      | some (.box cs) => match i.k.agg with
        | true => match allD ((cs.drop f).take i.sz) with
          | some ds => if ds.length = i.sz ∧ ds.all D.leaf = true then some (.d (.agg ds)) else none
          | none => if ((cs.drop f).take i.sz).length = i.sz ∧ ((cs.drop f).take i.sz).all (oneC o) = true then some (.ag ((cs.drop f).take i.sz)) else none
        | false => cs[f]?
      | _ => none
    | .el x => if x.leaf = !i.k.agg ∧ x.width = i.sz then some (.d x) else none
    | _ => none
theorem xld_ok {o : Nat → Option AO} {t : TypeId} {x : SV} {r : SV} (h : xld Θ o t x = some r) {K : SV → Prop} (hK : K r) : ldOp Θ o t x K := by
  unfold xld at h
  split at h
  · cases h
  · rename_i i hi
    refine ⟨i, hi, ?_⟩
    split at h
    · split at h
      · rename_i cs hcs
        refine ⟨cs, hcs, ?_⟩
        split at h
        · rename_i ha
          rw [if_pos ha]
          split at h
          · rename_i ds hds
            split at h
            · rename_i hc
              simp only [Option.some.injEq] at h
              subst h
              exact .inl ⟨ds, hds, hc.1, hc.2, hK⟩
            · cases h
          · split at h
            · rename_i hc
              simp only [Option.some.injEq] at h
              subst h
              exact .inr ⟨hc.1, hc.2, hK⟩
            · cases h
        · rename_i ha
          rw [if_neg (by simp [ha])]
          exact ⟨r, h, hK⟩
      · cases h
    · split at h
      · rename_i hc
        simp only [Option.some.injEq] at h
        subst h
        exact ⟨hc.1, hc.2, hK⟩
      · cases h
    · cases h

def xst (o : TM AO) (t : TypeId) (x y : SV) : Option (TM AO) :=
  match Θ t with
  | none => none
  | some i => match y.cells o.get with
    | none => none
    | some ys => if ys.length = i.sz then match x with
      | .loc k f => match o.get k with
        | some (.box cs) => if f + ys.length ≤ cs.length then some (o.set k (some (.box (cs.take f ++ ys ++ cs.drop (f + ys.length))))) else none
        | _ => none
      | _ => none
      else none
theorem xst_ok {o : TM AO} {t : TypeId} {x y : SV} {r : TM AO} (h : xst Θ o t x y = some r) {K : (Nat → Option AO) → Prop} (hK : K r.get) : stOp Θ o.get t x y K := by
  unfold xst at h
  split at h
  · cases h
  · rename_i i hi
    split at h
    · cases h
    · rename_i ys hys
      split at h
      · rename_i hl
        refine ⟨i, ys, hi, hys, hl, ?_⟩
        split at h
        · split at h
          · rename_i cs hcs
            split at h
            · rename_i hle
              simp only [Option.some.injEq] at h
              subst h
              rw [TM.get_set] at hK
              exact ⟨cs, hcs, hle, hK⟩
            · cases h
          · cases h
        · cases h
      · cases h

def xfd (o : Nat → Option AO) (t : TypeId) (x : SV) (f : Nat) : Option SV :=
  match Θ t with
  | none => none
  | some i => match i.k with
    | .struct fs => match fs[f]? with
      | none => none
      | some (off, ft) => match Θ ft with
        | none => none
        | some j => if j.sz = 0 then none else match x with
          | .loc k g => match o k with
            | some (.box _) => some (.loc k (g + off))
            | _ => none
          | .el x => (x.sub off j.sz j.k.agg).map .el
          | .rel k q g => match o k with
            | some (.row _ _ _) => some (.rel k q (g + off))
            | _ => none
          | _ => none
    | _ => none
theorem xfd_ok {o : Nat → Option AO} {t : TypeId} {x : SV} {f : Nat} {r : SV} (h : xfd Θ o t x f = some r) {K : SV → Prop} (hK : K r) : fdOp Θ o t x f K := by
  unfold xfd at h
  split at h
  · cases h
  · rename_i i hi
    split at h
    · rename_i fs hk
      split at h
      · cases h
      · rename_i off ft hf
        split at h
        · cases h
        · rename_i j hj
          split at h
          · cases h
          · rename_i hz
            refine ⟨i, fs, off, ft, j, hi, hk, hf, hj, hz, ?_⟩
            split at h
            · split at h
              · rename_i cs hcs
                simp only [Option.some.injEq] at h
                subst h
                exact ⟨⟨_, hcs⟩, hK⟩
              · cases h
            · obtain ⟨y, h1, rfl⟩ := Option.map_eq_some_iff.1 h
              exact ⟨y, h1, hK⟩
            · split at h
              · rename_i e z xs hcs
                simp only [Option.some.injEq] at h
                subst h
                exact ⟨⟨_, _, _, hcs⟩, hK⟩
              · cases h
            · cases h
    · cases h

def xfv (t : TypeId) (x : SV) (f : Nat) : Option SV :=
  match Θ t with
  | none => none
  | some i => match i.k with
    | .struct fs => match fs[f]? with
      | none => none
      | some (off, ft) => match Θ ft with
        | none => none
        | some j => match x with
          | .d x => (x.sub off j.sz j.k.agg).map .d
          | _ => none
    | _ => none
theorem xfv_ok {t : TypeId} {x : SV} {f : Nat} {r : SV} (h : xfv Θ t x f = some r) {K : SV → Prop} (hK : K r) : fvOp Θ t x f K := by
  unfold xfv at h
  split at h
  · cases h
  · rename_i i hi
    split at h
    · rename_i fs hk
      split at h
      · cases h
      · rename_i off ft hf
        split at h
        · cases h
        · rename_i j hj
          refine ⟨i, fs, off, ft, j, hi, hk, hf, hj, ?_⟩
          split at h
          · obtain ⟨y, h1, rfl⟩ := Option.map_eq_some_iff.1 h
            exact ⟨y, h1, hK⟩
          · cases h
    · cases h

def xix (o : Nat → Option AO) (t : TypeId) (x ix : SV) : Option SV :=
  match Θ t with
  | none => none
  | some i => match ix with
    | .d (.int _ n) => if n < 0 then none else match i.k with
      | .slice e => match Θ e with
        | none => none
        | some j => match x with
          | .d (.sl z xs) => if z = j.sz then (xs[n.toNat]?).map .el else none
          | .row q => match o q with
            | some (.row _ z xs) => if z = j.sz ∧ n.toNat < xs.length then some (.rel q n.toNat 0) else none
            | _ => none
          | _ => none
      | .arr m e => match Θ e with
        | none => none
        | some j => match x with
          | .loc q f => match o q with
            | some (.box _) => if n.toNat < m then some (.loc q (f + n.toNat * j.sz)) else none
            | _ => none
          | _ => none
      | _ => none
    | _ => none
theorem xix_ok {o : Nat → Option AO} {t : TypeId} {x ix : SV} {r : SV} (h : xix Θ o t x ix = some r) {K : SV → Prop} (hK : K r) : ixOp Θ o t x ix K := by
  unfold xix at h
  split at h
  · cases h
  · rename_i i hi
    split at h
    · rename_i k n
      split at h
      · cases h
      · rename_i hn
        split at h
        · rename_i e hk
          split at h
          · cases h
          · rename_i j hj
            refine ⟨i, e, j, k, n, hi, .inl hk, hj, rfl, by omega, ?_⟩
            split at h
            · split at h
              · rename_i hz
                obtain ⟨y, h1, rfl⟩ := Option.map_eq_some_iff.1 h
                exact ⟨hk, hz, y, h1, hK⟩
              · cases h
            · split at h
              · split at h
                · rename_i hz
                  obtain ⟨rfl, hlt⟩ := hz
                  simp only [Option.some.injEq] at h
                  subst h
                  rename_i hq
                  exact ⟨hk, _, _, hq, hlt, hK⟩
                · cases h
              · cases h
            · cases h
        · rename_i m e hk
          split at h
          · cases h
          · rename_i j hj
            split at h
            · split at h
              · rename_i hq
                split at h
                · rename_i hlt
                  simp only [Option.some.injEq] at h
                  subst h
                  exact ⟨i, e, j, k, n, hi, .inr ⟨m, hk, hlt⟩, hj, rfl, by omega, ⟨m, hk⟩, ⟨_, hq⟩, hK⟩
                · cases h
              · cases h
            · cases h
        · cases h
    · cases h

def xco (o : Nat → Option AO) (src dst : TypeId) (x : SV) : Option SV :=
  match Θ src with
  | none => none
  | some i => match Θ dst with
    | none => none
    | some j => match x with
      | .d (.int _ n) => match j.k with
        | .int k' => some (.d (.int k' (k'.wrap n)))
        | .str => match i.k with
          | .int _ => some (.d (.str (Utf8.encode n).data.toList))
          | _ => none
        | _ => none
      | .d (.str b) => match i.k with
        | .str => match j.k with
          | .str => some (.d (.str b))
          | .slice e => match Θ e with
            | none => none
            | some je => match je.k with
              | .int .u8 => if b.length ≤ 9223372036854775807 then some (.d (.sl 1 (bytesD b))) else none
              | _ => none
          | _ => none
        | _ => none
      | x => match j.k with
        | .str => match i.k with
          | .slice e => match Θ e with
            | none => none
            | some je => match je.k with
              | .int .u8 => match srcOf o 1 x with
                | none => none
                | some ys => (byteL ys).map fun b => .d (.str b)
              | _ => none
          | _ => none
        | _ => none
theorem xco_ok {o : Nat → Option AO} {src dst : TypeId} {x : SV} {r : SV} (h : xco Θ o src dst x = some r) {K : SV → Prop} (hK : K r) : coOp Θ o src dst x K := by
  unfold xco at h
  split at h
  · cases h
  · rename_i i hi
    split at h
    · cases h
    · rename_i j hj
      refine ⟨i, j, hi, hj, ?_⟩
      split at h
      · split at h
        · rename_i k' hk
          simp only [Option.some.injEq] at h; subst h
          simp only [hk]; exact hK
        · rename_i hk
          split at h
          · rename_i q hq
            simp only [Option.some.injEq] at h; subst h
            simp only [hk]; exact ⟨⟨q, hq⟩, hK⟩
          · cases h
        · cases h
      · split at h
        · rename_i hi2
          refine ⟨hi2, ?_⟩
          split at h
          · rename_i hk
            simp only [Option.some.injEq] at h; subst h
            simp only [hk]; exact hK
          · rename_i e hk
            split at h
            · cases h
            · rename_i je he
              split at h
              · rename_i hje
                split at h
                · rename_i hle
                  simp only [Option.some.injEq] at h; subst h
                  simp only [hk]; exact ⟨⟨je, he, hje⟩, hle, hK⟩
                · cases h
              · cases h
          · cases h
        · cases h
      · rename_i x h1 h2
        split at h
        · rename_i hk
          split at h
          · rename_i e hik
            split at h
            · cases h
            · rename_i je he
              split at h
              · rename_i hje
                split at h
                · cases h
                · rename_i ys hys
                  obtain ⟨b, hb, rfl⟩ := Option.map_eq_some_iff.1 h
                  split
                  · rename_i a b; exact absurd rfl (h1 _ _)
                  · rename_i b; exact absurd rfl (h2 _)
                  · exact ⟨hk, ⟨e, je, hik, he, hje⟩, ys, b, hys, hb, hK⟩
              · cases h
          · cases h
        · cases h

theorem mxhi {hi mx : Option SV} (h : mx.isNone = true ∨ hi.isNone = false) : mx = none ∨ hi ≠ none := by cases mx <;> cases hi <;> simp_all
def xsl (o : TM AO) (nk : Nat) (t : TypeId) (x : SV) (lo hi mx : Option SV) : Option XR :=
  match Θ t with
  | none => none
  | some i => match x with
    | .d (.str b) => match i.k, mx with
      | .str, none => match bndO b.length b.length hi with
        | none => none
        | some h => match bndO h 0 lo with
          | none => none
          | some l => some (.d (.str ((b.take h).drop l)), o, nk)
      | _, _ => none
    | .d .nil => match i.k with
      | .slice e => match Θ e, mx, bndO 0 0 hi, bndO 0 0 lo with
        | some _, none, some 0, some 0 => some (.d .nil, o, nk)
        | _, _, _, _ => none
      | _ => none
    | .d (.sl z xs) => match i.k with
      | .slice e => match Θ e with
        | none => none
        | some j => if j.sz = z ∧ (mx.isNone = true ∨ hi.isNone = false) then match bndO xs.length xs.length mx with
          | none => none
          | some m => match bndO m m hi with
            | none => none
            | some h => match bndO h 0 lo with
              | none => none
              | some l => some (.d (.sl z ((xs.take h).drop l)), o, nk)
          else none
      | _ => none
    | .row q => match i.k with
      | .slice e => match Θ e with
        | none => none
        | some j => match o.get q, mx with
          | some (.row e' z xs), none => if e' = e ∧ z = j.sz then match bndO xs.length xs.length hi with
            | none => none
            | some h => match bndO h 0 lo with
              | some 0 => some (.row nk, (o.set q none).set nk (some (.row e j.sz (xs.take h))), nk + 1)
              | _ => none
            else none
          | _, _ => none
      | _ => none
    | _ => none
theorem xsl_ok {o : TM AO} {nk : Nat} {t : TypeId} {x : SV} {lo hi mx : Option SV} {r : SV} {o' : TM AO} {nk' : Nat} (h : xsl Θ o nk t x lo hi mx = some (r, o', nk')) {K : SV → (Nat → Option AO) → Nat → Prop} (hK : K r o'.get nk') : slOp Θ o.get nk t x lo hi mx K := by
  unfold xsl at h
  split at h
  · cases h
  · rename_i i hi'
    split at h
    · split at h
      · rename_i hk
        split at h
        · cases h
        · rename_i m hm
          split at h
          · cases h
          · rename_i l hl
            simp only [Option.some.injEq, Prod.mk.injEq] at h
            obtain ⟨rfl, rfl, rfl⟩ := h
            exact ⟨⟨i, hi', hk⟩, rfl, m, l, hm, hl, hK⟩
      · cases h
    · split at h
      · rename_i e hk
        split at h
        · rename_i j he h1 h2
          simp only [Option.some.injEq, Prod.mk.injEq] at h
          obtain ⟨rfl, rfl, rfl⟩ := h
          exact ⟨⟨i, e, j, hi', hk, he⟩, .inl rfl, rfl, h1, h2, hK⟩
        · cases h
      · cases h
    · split at h
      · rename_i e hk
        split at h
        · cases h
        · rename_i j hj
          split at h
          · rename_i hc
            split at h
            · cases h
            · rename_i m hm
              split at h
              · cases h
              · rename_i p hp
                split at h
                · cases h
                · rename_i l hl
                  simp only [Option.some.injEq, Prod.mk.injEq] at h
                  obtain ⟨rfl, rfl, rfl⟩ := h
                  exact ⟨⟨i, e, j, hi', hk, hj, hc.1⟩, mxhi hc.2, m, p, l, hm, hp, hl, hK⟩
          · cases h
      · cases h
    · split at h
      · rename_i e hk
        split at h
        · cases h
        · rename_i j hj
          split at h
          · rename_i hq
            split at h
            · rename_i hc
              obtain ⟨rfl, rfl⟩ := hc
              split at h
              · cases h
              · rename_i p hp
                split at h
                · rename_i hl
                  simp only [Option.some.injEq, Prod.mk.injEq] at h
                  obtain ⟨rfl, rfl, rfl⟩ := h
                  rw [TM.get_set, TM.get_set] at hK
                  exact ⟨i, _, j, _, p, hi', hk, hj, hq, rfl, hp, hl, hK⟩
                · cases h
            · cases h
          · cases h
      · cases h
    · cases h

def xbs (o : TM AO) (nk : Nat) (t : TypeId) (n : Nat) (parts : List (Nat × SV)) : Option XR :=
  match Θ t with
  | none => none
  | some i => match i.k with
    | .slice e => match Θ e with
      | none => none
      | some j => match j.z with
        | none => none
        | some l => if l.length = j.sz ∧ 0 < j.sz ∧ n * j.sz ≤ 16777216 then match partsL j.sz 0 parts with
          | none => none
          | some xs => if xs.length = n then
              if n = 0 then some (.row nk, o.set nk (some (.row e j.sz xs)), nk + 1) else some (.dx j.sz xs, o, nk)
            else none
          else none
    | _ => none
theorem xbs_ok {o : TM AO} {nk : Nat} {t : TypeId} {n : Nat} {parts : List (Nat × SV)} {r : SV} {o' : TM AO} {nk' : Nat} (h : xbs Θ o nk t n parts = some (r, o', nk')) {K : SV → (Nat → Option AO) → Nat → Prop} (hK : K r o'.get nk') : bsOp Θ o.get nk t n parts K := by
  unfold xbs at h
  split at h
  · cases h
  · rename_i i hi
    split at h
    · rename_i e hk
      split at h
      · cases h
      · rename_i j hj
        split at h
        · cases h
        · rename_i l hz
          split at h
          · rename_i hc
            split at h
            · cases h
            · rename_i xs hxs
              split at h
              · rename_i hn
                refine ⟨i, e, j, l, xs, hi, hk, hj, hz, hc.1, hc.2.1, hxs, hn, hc.2.2, ?_⟩
                split at h
                · rename_i h0
                  simp only [Option.some.injEq, Prod.mk.injEq] at h
                  obtain ⟨rfl, rfl, rfl⟩ := h
                  rw [if_pos h0]; rw [TM.get_set] at hK; exact hK
                · rename_i h0
                  simp only [Option.some.injEq, Prod.mk.injEq] at h
                  obtain ⟨rfl, rfl, rfl⟩ := h
                  rw [if_neg h0]; exact .inr hK
              · cases h
          · cases h
    · cases h

def xbu (t : TypeId) (parts : List (Nat × SV)) : Option SV :=
  match Θ t with
  | none => none
  | some i => match i.k with
    | .struct fs => match i.z with
      | none => none
      | some l => (fillL (placeOf Θ fs) l parts).map fun ds => .d (.agg ds)
    | _ => none
theorem xbu_ok {t : TypeId} {parts : List (Nat × SV)} {r : SV} (h : xbu Θ t parts = some r) {K : SV → Prop} (hK : K r) : buOp Θ t parts K := by
  unfold xbu at h
  split at h
  · cases h
  · rename_i i hi
    split at h
    · rename_i fs hk
      split at h
      · cases h
      · rename_i l hz
        obtain ⟨ds, hd, rfl⟩ := Option.map_eq_some_iff.1 h
        exact ⟨i, fs, l, ds, hi, hk, hz, hd, hK⟩
    · cases h

def isStr : TK → Bool
  | .str => true
  | _ => false
def isSl : TK → Bool
  | .slice _ => true
  | _ => false
theorem isStr_ok {k : TK} (h : isStr k = true) : k = .str := by cases k <;> simp_all [isStr]
theorem isSl_ok {k : TK} (h : isSl k = true) : ∃ e, k = .slice e := by cases k <;> simp_all [isSl]
def xle (o : Nat → Option AO) (ts : List TypeId) (x : SV) : Option SV :=
  match ts with
  | [t] => match Θ t with
    | none => none
    | some i => match (match x with
        | .d (.str _) => isStr i.k
        | _ => isSl i.k) with
      | true => (lenD o x).map fun (n : Nat) => SV.d (.int .i64 (n : Int))
      | false => none
  | _ => none
theorem xle_ok {o : Nat → Option AO} {ts : Array TypeId} {x : SV} {r : SV} (h : xle Θ o ts.toList x = some r) {K : SV → Prop} (hK : K r) : leOp Θ o ts x K := by
  unfold xle at h
  split at h
  · rename_i t ht
    have hts : ts = #[t] := by cases ts; simp_all
    split at h
    · cases h
    · rename_i i hi
      split at h
      · rename_i hc
        obtain ⟨n, hn, rfl⟩ := Option.map_eq_some_iff.1 h
        refine ⟨t, i, hts, hi, ?_, n, hn, hK⟩
        split at hc
        · exact isStr_ok hc
        · rename_i hx
          split
          · rename_i b; exact absurd rfl (hx b)
          · exact isSl_ok hc
      · cases h
  · cases h

def xap (o : TM AO) (nk : Nat) (ts : List TypeId) (x y : SV) : Option XR :=
  match ts with
  | [t, u] => match Θ t with
    | none => none
    | some i => match i.k with
      | .slice e => match Θ e with
        | none => none
        | some j => match j.z with
          | none => none
          | some l => match dstOf o.get e j.sz x with
            | none => none
            | some (q, xs) => match (match y with
                | .d (.str b) => match Θ u with
                  | none => none
                  | some v => match v.k, j.k, l with
                    | .str, .int .u8, [.int .u8 0] => if j.sz = 1 ∧ j.bys = 1 then some (b.map fun (c : UInt8) => D.int .u8 (c.toNat : Int)) else none
                    | _, _, _ => none
                | y => if u = t then srcOf o.get j.sz y else none) with
              | none => none
              | some ys => if l.length = j.sz ∧ 0 < j.sz ∧ xs.length + ys.length ≤ 9223372036854775807 ∧ (xs.length + ys.length) * j.bys ≤ 140737488355328 then
                  some (.row nk, (match q with
                    | none => o
                    | some t => o.set t none).set nk (some (.row e j.sz (xs ++ ys))), nk + 1)
                else none
      | _ => none
  | _ => none
theorem xap_ok {o : TM AO} {nk : Nat} {ts : Array TypeId} {x y : SV} {r : SV} {o' : TM AO} {nk' : Nat} (h : xap Θ o nk ts.toList x y = some (r, o', nk')) {K : SV → (Nat → Option AO) → Nat → Prop} (hK : K r o'.get nk') : apOp Θ o.get nk ts x y K := by
  unfold xap at h
  split at h
  · rename_i t u ht
    have hts : ts = #[t, u] := by cases ts; simp_all
    split at h
    · cases h
    · rename_i i hi
      split at h
      · rename_i e hk
        split at h
        · cases h
        · rename_i j hj
          split at h
          · cases h
          · rename_i l hz
            split at h
            · cases h
            · rename_i q xs hd
              split at h
              · cases h
              · rename_i ys hys
                split at h
                · rename_i hc
                  simp only [Option.some.injEq, Prod.mk.injEq] at h
                  obtain ⟨rfl, rfl, rfl⟩ := h
                  refine ⟨t, u, i, e, j, l, q, xs, ys, hts, hi, hk, hj, hz, hc.1, hc.2.1, hd, ?_, hc.2.2.1, hc.2.2.2, ?_⟩
                  · split at hys
                    · split at hys
                      · cases hys
                      · rename_i v hv
                        split at hys
                        · rename_i _ h1 h2
                          split at hys
                          · rename_i h4
                            simp only [Option.some.injEq] at hys
                            subst hys
                            exact ⟨⟨v, hv, h1⟩, h2, h4.1, h4.2, rfl, rfl⟩
                          · cases hys
                        · cases hys
                    · rename_i hx
                      split at hys
                      · rename_i hu
                        split
                        · rename_i b; exact absurd rfl (hx b)
                        · exact ⟨hu, hys⟩
                      · cases hys
                  · rw [TM.get_set] at hK
                    cases q with
                    | none => exact hK
                    | some q => rw [TM.get_set] at hK; exact hK
                · cases h
      · cases h
  · cases h

def xev (s : XS) : Operand → SV
  | .tmp t => match s.sl.get t with
    | some v => v
    | none => .any
  | .const v => cst v
  | .func f => .clo f [] []
  | .global _ => .any
theorem xev_eq (s : XS) (x : Operand) : xev s x = ev s.st.sl x := by
  cases x <;> simp only [xev, ev, XS.st]
  split <;> simp_all

/-- The letters that an iterator stands at. -/
def itAt : RO → Option (List UInt8 × Nat)
  | .ob (.stringIter b pos) => some (b.data.toList, pos)
  | _ => none
theorem itAt_ok {ob : RO} {l : List UInt8} {pos : Nat} (h : itAt ob = some (l, pos)) : ob = itOb l pos := by
  unfold itAt at h
  split at h
  · rename_i b p
    simp only [Option.some.injEq, Prod.mk.injEq] at h
    obtain ⟨rfl, rfl⟩ := h
    obtain ⟨⟨a⟩⟩ := b
    rfl
  · cases h

/-- One operation, computed. -/
def xOp0 (op : Op) (s : XS) : Option XR :=
  match op with
  | .move x => some (xev s x, s.o, s.nk)
  | .assign x => some (xev s x, s.o, s.nk)
  | .pick c x y => match xev s c with
    | .d (.bool true) => some (xev s x, s.o, s.nk)
    | .d (.bool false) => some (xev s y, s.o, s.nk)
    | _ => none
  | .alloc e => match Θ e with
    | none => none
    | some i => match i.z with
      | none => none
      | some l => some (.loc s.nk 0, s.o.set s.nk (some (.box (l.map .d))), s.nk + 1)
  | .box e x => match (xev s x).cells s.o.get with
    | none => none
    | some cs => some (.loc s.nk 0, s.o.set s.nk (some (.box cs)), s.nk + 1)
  | .build t parts => (xbu Θ t (parts.toList.map fun p => (p.1, xev s p.2))).map fun v => (v, s.o, s.nk)
  | .buildSlice t n parts => xbs Θ s.o s.nk t n (parts.toList.map fun p => (p.1, (xev s p.2)))
  | .load t x => (xld Θ s.o.get t (xev s x)).map fun v => (v, s.o, s.nk)
  | .store t x y => (xst Θ s.o t (xev s x) (xev s y)).map fun o' => (.any, o', s.nk)
  | .nilCheck x => match xev s x with
    | .loc k f => match s.o.get k with
      | some (.box _) => some (.loc k f, s.o, s.nk)
      | _ => none
    | .el x => some (.el x, s.o, s.nk)
    | .clo a b c => some (.clo a b c, s.o, s.nk)
    | _ => none
  | .binOp b t x y _ => (xbn Θ s.o.get b t (xev s x) (xev s y)).map fun v => (.d v, s.o, s.nk)
  | .unOp b _ x => (unOpD b (xev s x)).map fun v => (.d v, s.o, s.nk)
  | .convert src dst x => (xco Θ s.o.get src dst (xev s x)).map fun v => (v, s.o, s.nk)
  | .makeFunc fn fs cs => match fn with
    | .func f => some (.clo f (fs.toList.map (xev s)) (cs.toList.map (xev s)), s.o, s.nk)
    | _ => none
  | .slice t x lo hi mx => xsl Θ s.o s.nk t (xev s x) (lo.map (xev s)) (hi.map (xev s)) (mx.map (xev s))
  | .fieldAddr t x f => (xfd Θ s.o.get t (xev s x) f).map fun v => (v, s.o, s.nk)
  | .field t x f => (xfv Θ t (xev s x) f).map fun v => (v, s.o, s.nk)
  | .indexAddr t x ix => (xix Θ s.o.get t (xev s x) (xev s ix)).map fun v => (v, s.o, s.nk)
  | .index t x ix => match Θ t with
    | none => none
    | some i => match i.k, xev s x, xev s ix with
      | .str, .d (.str l), .d (.int _ n) => if 0 ≤ n ∧ n.toNat < l.length then some (.d (.int .u8 (bAt l n.toNat)), s.o, s.nk) else none
      | _, _, _ => none
  | .extract x q => match xev s x with
    | .tup xs => (xs[q]?).map fun c => (c, s.o, s.nk)
    | _ => none
  | .call c => match c.callee with
    | .builtin b => match b, c.args.toList with
      | .len, [x] => (xle Θ s.o.get c.argTypes.toList (xev s x)).map fun v => (v, s.o, s.nk)
      | .append, [x, y] => xap Θ s.o s.nk c.argTypes.toList (xev s x) (xev s y)
      | .max, [x, y] => (mmD true (xev s x) (xev s y)).map fun v => (.d v, s.o, s.nk)
      | .min, [x, y] => (mmD false (xev s x) (xev s y)).map fun v => (.d v, s.o, s.nk)
      | _, _ => none
    | .value x => match xev s x with
      | .clo f fs cs => call f (fs ++ c.args.toList.map (xev s) ++ cs) s.o s.nk
      | _ => none
    | _ => none
  | .range t x => match Θ t with
    | none => none
    | some i => match i.k, xev s x with
      | .str, .d (.str l) => some (.raw s.nk, s.o.set s.nk (some (.raw (itOb l 0))), s.nk + 1)
      | _, _ => none
  | .next x true => match xev s x with
    | .raw k => match s.o.get k with
      | some (.raw ob) => match itAt ob with
        | none => none
        | some (l, pos) => if pos < l.length then some (.tup [.d (.bool true), .d (.int .i64 pos), .d (.int .i32 (Utf8.decode ⟨l.toArray⟩ pos).1)], s.o.set k (some (.raw (itOb l (pos + (Utf8.decode ⟨l.toArray⟩ pos).2)))), s.nk)
            else some (.tup [.d (.bool false)], s.o, s.nk)
      | _ => none
    | _ => none
  | _ => none
end
theorem xOp0_ok {P : Program} {Θ : Tab} {call : Nat → List SV → TM AO → Nat → Option XR} (hc : ∀ f asx o nk r o' nk', call f asx o nk = some (r, o', nk') → Spec P f asx o.get nk fun r2 o2 n2 => r2 = r ∧ o2 = o'.get ∧ n2 = nk')
    {op : Op} {s : XS} {r : SV} {o' : TM AO} {nk' : Nat} (h : xOp0 Θ call op s = some (r, o', nk')) {K : SV → (Nat → Option AO) → Nat → Prop} (hK : K r o'.get nk') : vOp0 P Θ op s.st K := by
  have hev : ∀ x, xev s x = ev s.st.sl x := xev_eq s
  have hev2 : xev s = ev s.st.sl := funext hev
  have ho : s.st.o = s.o.get := rfl
  have hn : s.st.nk = s.nk := rfl
  have mp : ∀ {α : Type} {x : Option α} {f : α → XR}, x.map f = some (r, o', nk') → ∃ v, x = some v ∧ f v = (r, o', nk') := fun h => by simpa using h
  unfold xOp0 at h
  simp only [hev2] at h
  cases op with
  | move x => simp only [Option.some.injEq, Prod.mk.injEq] at h; obtain ⟨rfl, rfl, rfl⟩ := h; exact hK
  | assign x => simp only [Option.some.injEq, Prod.mk.injEq] at h; obtain ⟨rfl, rfl, rfl⟩ := h; exact hK
  | pick c x y =>
    simp only at h
    split at h
    · rename_i hb
      simp only [Option.some.injEq, Prod.mk.injEq] at h; obtain ⟨rfl, rfl, rfl⟩ := h
      exact ⟨true, hb, hK⟩
    · rename_i hb
      simp only [Option.some.injEq, Prod.mk.injEq] at h; obtain ⟨rfl, rfl, rfl⟩ := h
      exact ⟨false, hb, hK⟩
    · cases h
  | alloc e =>
    simp only at h
    split at h
    · cases h
    · rename_i i hi
      split at h
      · cases h
      · rename_i l hz
        simp only [Option.some.injEq, Prod.mk.injEq] at h; obtain ⟨rfl, rfl, rfl⟩ := h
        rw [TM.get_set] at hK
        exact ⟨i, l, hi, hz, hK⟩
  | box e x =>
    simp only at h
    split at h
    · cases h
    · rename_i cs hcs
      simp only [Option.some.injEq, Prod.mk.injEq] at h; obtain ⟨rfl, rfl, rfl⟩ := h
      rw [TM.get_set] at hK
      exact ⟨cs, hcs, hK⟩
  | build t parts =>
    simp only at h
    obtain ⟨v, h1, h2⟩ := mp h
    simp only [Prod.mk.injEq] at h2; obtain ⟨rfl, rfl, rfl⟩ := h2
    exact xbu_ok Θ h1 (K := fun v => K v s.st.o s.st.nk) hK
  | buildSlice t n parts => exact xbs_ok Θ h hK
  | load t x =>
    simp only at h
    obtain ⟨v, h1, h2⟩ := mp h
    simp only [Prod.mk.injEq] at h2; obtain ⟨rfl, rfl, rfl⟩ := h2
    exact xld_ok Θ h1 (K := fun v => K v s.st.o s.st.nk) hK
  | store t x y =>
    simp only at h
    obtain ⟨v, h1, h2⟩ := mp h
    simp only [Prod.mk.injEq] at h2; obtain ⟨rfl, rfl, rfl⟩ := h2
    exact xst_ok Θ h1 (K := fun o' => K .any o' s.st.nk) hK
  | nilCheck x =>
    simp only at h
    split at h
    · rename_i k f hx
      split at h
      · rename_i cs hcs
        simp only [Option.some.injEq, Prod.mk.injEq] at h; obtain ⟨rfl, rfl, rfl⟩ := h
        exact ⟨by rw [hx]; exact ⟨_, hcs⟩, by rw [hx]; exact hK⟩
      · cases h
    · rename_i y hx
      simp only [Option.some.injEq, Prod.mk.injEq] at h; obtain ⟨rfl, rfl, rfl⟩ := h
      exact ⟨by rw [hx]; trivial, by rw [hx]; exact hK⟩
    · rename_i a b c hx
      simp only [Option.some.injEq, Prod.mk.injEq] at h; obtain ⟨rfl, rfl, rfl⟩ := h
      exact ⟨by rw [hx]; trivial, by rw [hx]; exact hK⟩
    · cases h
  | binOp b t x y u =>
    simp only at h
    obtain ⟨v, h1, h2⟩ := mp h
    simp only [Prod.mk.injEq] at h2; obtain ⟨rfl, rfl, rfl⟩ := h2
    exact xbn_ok Θ h1 (K := fun v => K v s.st.o s.st.nk) hK
  | unOp b t x =>
    simp only at h
    obtain ⟨v, h1, h2⟩ := mp h
    simp only [Prod.mk.injEq] at h2; obtain ⟨rfl, rfl, rfl⟩ := h2
    exact ⟨v, h1, hK⟩
  | convert src dst x =>
    simp only at h
    obtain ⟨v, h1, h2⟩ := mp h
    simp only [Prod.mk.injEq] at h2; obtain ⟨rfl, rfl, rfl⟩ := h2
    exact xco_ok Θ h1 (K := fun v => K v s.st.o s.st.nk) hK
  | makeFunc fn fs cs =>
    cases fn with
    | func f =>
      simp only [Option.some.injEq, Prod.mk.injEq] at h; obtain ⟨rfl, rfl, rfl⟩ := h
      exact hK
    | _ => cases h
  | slice t x lo hi mx => exact xsl_ok Θ h hK
  | fieldAddr t x f =>
    simp only at h
    obtain ⟨v, h1, h2⟩ := mp h
    simp only [Prod.mk.injEq] at h2; obtain ⟨rfl, rfl, rfl⟩ := h2
    exact xfd_ok Θ h1 (K := fun v => K v s.st.o s.st.nk) hK
  | field t x f =>
    simp only at h
    obtain ⟨v, h1, h2⟩ := mp h
    simp only [Prod.mk.injEq] at h2; obtain ⟨rfl, rfl, rfl⟩ := h2
    exact xfv_ok Θ h1 (K := fun v => K v s.st.o s.st.nk) hK
  | indexAddr t x ix =>
    simp only at h
    obtain ⟨v, h1, h2⟩ := mp h
    simp only [Prod.mk.injEq] at h2; obtain ⟨rfl, rfl, rfl⟩ := h2
    exact xix_ok Θ h1 (K := fun v => K v s.st.o s.st.nk) hK
  | index t x ix =>
    simp only at h
    split at h
    · cases h
    · rename_i i hi
      split at h
      · rename_i h1 h2 h3
        split at h
        · rename_i hb
          simp only [Option.some.injEq, Prod.mk.injEq] at h; obtain ⟨rfl, rfl, rfl⟩ := h
          exact ⟨i, _, _, _, hi, h1, h2, h3, hb.1, hb.2, hK⟩
        · cases h
      · cases h
  | extract x q =>
    simp only at h
    split at h
    · rename_i xs hx
      obtain ⟨v, h1, h2⟩ := mp h
      simp only [Prod.mk.injEq] at h2; obtain ⟨rfl, rfl, rfl⟩ := h2
      exact ⟨xs, _, hx, h1, hK⟩
    · cases h
  | call c =>
    obtain ⟨callee, asx, ts⟩ := c
    simp only at h
    cases callee with
    | builtin b =>
      simp only at h
      show blOp Θ s.st b ts asx.toList K
      split at h
      · rename_i x hx
        obtain ⟨v, h1, h2⟩ := mp h
        simp only [Prod.mk.injEq] at h2; obtain ⟨rfl, rfl, rfl⟩ := h2
        rw [hx]
        exact xle_ok Θ h1 (K := fun v => K v s.st.o s.st.nk) hK
      · rename_i x y hx
        rw [hx]
        exact xap_ok Θ h hK
      · rename_i x y hx
        obtain ⟨v, h1, h2⟩ := mp h
        simp only [Prod.mk.injEq] at h2; obtain ⟨rfl, rfl, rfl⟩ := h2
        rw [hx]
        exact ⟨v, h1, hK⟩
      · rename_i x y hx
        obtain ⟨v, h1, h2⟩ := mp h
        simp only [Prod.mk.injEq] at h2; obtain ⟨rfl, rfl, rfl⟩ := h2
        rw [hx]
        exact ⟨v, h1, hK⟩
      · cases h
    | value x =>
      simp only at h
      split at h
      · rename_i f fs cs hx
        refine ⟨f, fs, cs, hx, ?_⟩
        exact (hc _ _ _ _ _ _ _ h).mono (by rintro r2 o2 n2 ⟨rfl, rfl, rfl⟩; exact hK)
      · cases h
    | _ => cases h
  | range t x =>
    simp only at h
    split at h
    · cases h
    · rename_i i hi
      split at h
      · rename_i h1 h2
        simp only [Option.some.injEq, Prod.mk.injEq] at h; obtain ⟨rfl, rfl, rfl⟩ := h
        rw [TM.get_set] at hK
        exact ⟨i, _, hi, h1, h2, hK⟩
      · cases h
  | next x b =>
    cases b with
    | false => cases h
    | true =>
      simp only at h
      split at h
      · rename_i k hx
        split at h
        · rename_i ob hq
          split at h
          · cases h
          · rename_i l pos hit
            have hob := itAt_ok hit
            subst hob
            split at h
            · rename_i hlt
              simp only [Option.some.injEq, Prod.mk.injEq] at h; obtain ⟨rfl, rfl, rfl⟩ := h
              rw [TM.get_set] at hK
              refine ⟨rfl, k, l, pos, hx, hq, ?_⟩
              rw [if_pos hlt]; exact hK
            · rename_i hlt
              simp only [Option.some.injEq, Prod.mk.injEq] at h; obtain ⟨rfl, rfl, rfl⟩ := h
              refine ⟨rfl, k, l, pos, hx, hq, ?_⟩
              rw [if_neg hlt]; exact hK
        · cases h
      · cases h
  | _ => cases h
def setO2 (o : TM AO) : List (Nat × Option AO) → TM AO
  | [] => o
  | (k, x) :: r => setO2 (o.set k x) r
theorem setO2_get : ∀ (l : List (Nat × Option AO)) (o : TM AO), (setO2 o l).get = upds o.get l
  | [], o => rfl
  | (k, x) :: r, o => by rw [setO2, setO2_get r, TM.get_set]; rfl
/-- One operation, computed. -/
def xOp (Θ : Tab) (call : Nat → List SV → TM AO → Nat → Option XR) (op : Op) (s : XS) : Option XR :=
  match nQ Θ op (xev s) s.o.get with
  | some v => some (v, s.o, s.nk)
  | none => match nW0 Θ op (xev s) s.o.get s.nk with
    | some (v, l, nk') => some (v, setO2 s.o l, nk')
    | none => match xOp0 Θ call op s with
      | some r => some r
      | none => match nWF Θ op (xev s) s.o.get s.nk op.operands.toList with
        | some (v, l, nk') => some (v, setO2 s.o l, nk')
        | none => none
theorem xOp_ok {P : Program} {Θ : Tab} {call : Nat → List SV → TM AO → Nat → Option XR} (hc : ∀ f asx o nk r o' nk', call f asx o nk = some (r, o', nk') → Spec P f asx o.get nk fun r2 o2 n2 => r2 = r ∧ o2 = o'.get ∧ n2 = nk')
    {op : Op} {s : XS} {r : SV} {o' : TM AO} {nk' : Nat} (h : xOp Θ call op s = some (r, o', nk')) {K : SV → (Nat → Option AO) → Nat → Prop} (hK : K r o'.get nk') : vOp P Θ op s.st K := by
  have hev : xev s = ev s.st.sl := funext (xev_eq s)
  unfold xOp at h
  rw [hev] at h
  split at h
  · rename_i v hv
    simp only [Option.some.injEq, Prod.mk.injEq] at h
    obtain ⟨rfl, rfl, rfl⟩ := h
    exact .inr (.inl ⟨_, hv, hK⟩)
  · split at h
    · rename_i v l nk2 hv
      simp only [Option.some.injEq, Prod.mk.injEq] at h
      obtain ⟨rfl, rfl, rfl⟩ := h
      refine .inr (.inr ⟨_, nW_of0 hv, ?_⟩)
      rw [setO2_get] at hK
      exact hK
    · rename_i hn
      split at h
      · rename_i r0 h0
        simp only [Option.some.injEq] at h
        subst h
        exact .inl (xOp0_ok hc h0 hK)
      · split at h
        · rename_i v l nk2 hv
          simp only [Option.some.injEq, Prod.mk.injEq] at h
          obtain ⟨rfl, rfl, rfl⟩ := h
          refine .inr (.inr ⟨_, nW_ofF hn hv, ?_⟩)
          rw [setO2_get] at hK
          exact hK
        · cases h
end Go.Proofs.YtmielecljgfnaaaGreat.Abs

/- A run of code that is computed: regions, loops, calls; rows are frozen where their elements are read. -/
set_option linter.unusedVariables false
set_option linter.unusedSimpArgs false
namespace Go.Proofs.YtmielecljgfnaaaGreat.Abs
open Go

mutual
def D.eqb : D → D → Bool
  | .int k n, .int k2 n2 => decide (k = k2) && decide (n = n2)
  | .bool a, .bool b => a == b
  | .str s, .str t => decide (s = t)
  | .sl z xs, .sl z2 ys => decide (z = z2) && D.eqbs xs ys
  | .agg xs, .agg ys => D.eqbs xs ys
  | .nilp, .nilp => true
  | .nil, .nil => true
  | .nilk a, .nilk b => decide (a = b)
  | _, _ => false
def D.eqbs : List D → List D → Bool
  | [], [] => true
  | x :: xs, y :: ys => D.eqb x y && D.eqbs xs ys
  | _, _ => false
end
mutual
theorem D.eqb_ok : ∀ x y : D, D.eqb x y = true → x = y
  | .int k n, y, h => by cases y <;> simp [D.eqb] at h; obtain ⟨rfl, rfl⟩ := h; rfl
  | .bool a, y, h => by cases y <;> simp [D.eqb] at h; subst h; rfl
  | .str s, y, h => by cases y <;> simp [D.eqb] at h; subst h; rfl
  | .sl z xs, y, h => by
    cases y <;> simp [D.eqb] at h
    obtain ⟨rfl, h⟩ := h
    rw [D.eqbs_ok xs _ h]
  | .agg xs, y, h => by
    cases y <;> simp [D.eqb] at h
    rw [D.eqbs_ok xs _ h]
  | .nilp, y, h => by cases y <;> simp [D.eqb] at h; rfl
  | .nil, y, h => by cases y <;> simp [D.eqb] at h; rfl
  | .nilk k, y, h => by cases y <;> simp [D.eqb] at h; subst h; rfl
theorem D.eqbs_ok : ∀ xs ys : List D, D.eqbs xs ys = true → xs = ys
  | [], [], _ => rfl
  | [], y :: ys, h => by simp [D.eqbs] at h
  | x :: xs, [], h => by simp [D.eqbs] at h
  | x :: xs, y :: ys, h => by
    simp only [D.eqbs, Bool.and_eq_true] at h
    rw [D.eqb_ok x y h.1, D.eqbs_ok xs ys h.2]
end
mutual
def SV.eqb : SV → SV → Bool
  | .d x, .d y => D.eqb x y
  | .loc a1 b1, .loc a2 b2 => decide (a1 = a2) && decide (b1 = b2)
  | .row a1, .row a2 => decide (a1 = a2)
  | .el x, .el y => D.eqb x y
  | .rel a1 b1 c1, .rel a2 b2 c2 => decide (a1 = a2) && decide (b1 = b2) && decide (c1 = c2)
  | .raw a1, .raw a2 => decide (a1 = a2)
  | .view a1 b1 c1 e1, .view a2 b2 c2 e2 => decide (a1 = a2) && decide (b1 = b2) && decide (c1 = c2) && decide (e1 = e2)
  | .dx z xs, .dx z2 ys => decide (z = z2) && D.eqbs xs ys
  | .tup xs, .tup ys => SV.eqbs xs ys
  | .ag xs, .ag ys => SV.eqbs xs ys
  | .clo f a b, .clo g a2 b2 => decide (f = g) && SV.eqbs a a2 && SV.eqbs b b2
  | .any, .any => true
  | _, _ => false
def SV.eqbs : List SV → List SV → Bool
  | [], [] => true
  | x :: xs, y :: ys => SV.eqb x y && SV.eqbs xs ys
  | _, _ => false
end
mutual
theorem SV.eqb_ok : ∀ {x y : SV}, SV.eqb x y = true → x = y
  | .d x, y, h => by cases y <;> simp [SV.eqb] at h; rw [D.eqb_ok _ _ h]
  | .loc a b, y, h => by cases y <;> simp [SV.eqb] at h; obtain ⟨rfl, rfl⟩ := h; rfl
  | .row a, y, h => by cases y <;> simp [SV.eqb] at h; subst h; rfl
  | .el x, y, h => by cases y <;> simp [SV.eqb] at h; rw [D.eqb_ok _ _ h]
  | .rel a b c, y, h => by cases y <;> simp [SV.eqb] at h; obtain ⟨⟨rfl, rfl⟩, rfl⟩ := h; rfl
  | .raw a, y, h => by cases y <;> simp [SV.eqb] at h; subst h; rfl
  | .view a b c e, y, h => by cases y <;> simp [SV.eqb] at h; obtain ⟨⟨⟨rfl, rfl⟩, rfl⟩, rfl⟩ := h; rfl
  | .dx z xs, y, h => by cases y <;> simp [SV.eqb] at h; obtain ⟨rfl, h⟩ := h; rw [D.eqbs_ok _ _ h]
  | .tup xs, y, h => by cases y <;> simp [SV.eqb] at h; rw [SV.eqbs_ok h]
  | .ag xs, y, h => by cases y <;> simp [SV.eqb] at h; rw [SV.eqbs_ok h]
  | .clo f a b, y, h => by cases y <;> simp [SV.eqb] at h; obtain ⟨⟨rfl, h1⟩, h2⟩ := h; rw [SV.eqbs_ok h1, SV.eqbs_ok h2]
  | .any, y, h => by cases y <;> first | rfl | (simp [SV.eqb] at h)
theorem SV.eqbs_ok : ∀ {xs ys : List SV}, SV.eqbs xs ys = true → xs = ys
  | [], [], _ => rfl
  | [], y :: ys, h => by simp [SV.eqbs] at h
  | x :: xs, [], h => by simp [SV.eqbs] at h
  | x :: xs, y :: ys, h => by
    simp only [SV.eqbs, Bool.and_eq_true] at h
    rw [SV.eqb_ok h.1, SV.eqbs_ok h.2]
end

/-! ### rows that are frozen -/
def XS.frz (s : XS) (t : Nat) : XS :=
  match s.o.get t with
  | some (.row _ z xs) => ⟨s.sl.mapT (SV.frz t (.sl z xs)), (s.o.mapT (AO.frz t (.sl z xs))).set t none, s.nk⟩
  | _ => s
theorem XS.frz_ok {E : Ent} {s : XS} {a : Act} {w : World} (t : Nat) (h : Rel E s.st a w) : Rel E (s.frz t).st a w := by
  unfold XS.frz
  split
  · rename_i e z xs ht
    have := h.freezeA 0 (t := t) (e := e) (z := z) (xs := xs) ht
    have e1 : (XS.st ⟨s.sl.mapT (SV.frz t (.sl z xs)), (s.o.mapT (AO.frz t (.sl z xs))).set t none, s.nk⟩) = { sl := fun u => (s.st.sl u).frz t (.sl z xs), o := frzo 0 s.st.o t (.sl z xs), nk := s.st.nk } := by
      simp only [XS.st, St.mk.injEq, and_true]
      constructor
      · funext u
        rw [TM.get_mapT]
        cases s.sl.get u <;> rfl
      · rw [TM.get_set]
        funext u
        simp only [upd, frzo, TM.get_mapT]
        split
        · rfl
        · simp
    rw [e1]; exact this
  · exact h
def XS.frzs (s : XS) : List Nat → XS
  | [] => s
  | t :: r => (s.frz t).frzs r
theorem XS.frzs_ok {E : Ent} {a : Act} {w : World} : ∀ (l : List Nat) {s : XS}, Rel E s.st a w → Rel E (s.frzs l).st a w
  | [], s, h => h
  | t :: r, s, h => frzs_ok r (s.frz_ok t h)
/-- Rows that a value tells of. -/
def rowsV : SV → List Nat
  | .row t => [t]
  | .rel t _ _ => [t]
  | .view t _ _ _ => [t]
  | _ => []
def rowsL : List SV → List Nat
  | [] => []
  | c :: r => rowsV c ++ rowsL r
def rowsO (o : TM AO) : SV → List Nat
  | .row t => [t]
  | .rel t _ _ => [t]
  | .view t _ _ _ => [t]
  | .loc t _ => match o.get t with
    | some (.box cs) => rowsL cs
    | _ => []
  | .tup cs => rowsL cs
  | _ => []

section
variable (Θ : Tab) (nofr : Nat → Bool) (call : Nat → List SV → TM AO → Nat → Option XR)

def putD (sl : TM SV) (d : Option Nat) (v : SV) : TM SV :=
  match d with
  | some d => sl.set d (some v)
  | none => sl
theorem putD_ok (sl : TM SV) (d : Option Nat) (v : SV) : (fun u => ((putD sl d v).get u).getD .any) = pt (fun u => (sl.get u).getD .any) d v := by
  cases d with
  | none => rfl
  | some d =>
    simp only [putD, pt, TM.get_set]
    funext u
    simp only [upd]
    split <;> rfl
theorem put_st (s : XS) (d : Option Nat) (v : SV) (o : TM AO) (nk : Nat) : (XS.mk (putD s.sl d v) o nk).st = { sl := pt s.st.sl d v, o := o.get, nk := nk } := by
  simp only [XS.st, putD_ok]

def xGuard (ops : Array Oper) (sl : TM SV) : Option (Nat × Bool) → Option Bool
  | none => some true
  | some (j, want) => match (ops[j]?).bind (·.dst) with
    | none => none
    | some d => match sl.get d with
      | some (.d (.bool b)) => some (if want = true then b else !b)
      | some (.tup []) => some false
      | _ => none
theorem xGuard_ok {ops : Array Oper} {s : XS} {g : Option (Nat × Bool)} {c : Bool} (h : xGuard ops s.sl g = some c) : gdc ops s.st g c := by
  unfold xGuard at h
  split at h
  · simp only [Option.some.injEq] at h; exact h.symm
  · rename_i j want
    split at h
    · cases h
    · rename_i d hd
      have hg : gsl ops s.st j = (s.sl.get d).getD .any := by unfold gsl; rw [hd]; rfl
      show GC (gsl ops s.st j) want c
      split at h
      · rename_i b hb
        simp only [Option.some.injEq] at h; subst h
        rw [hg, hb]
        exact .inl ⟨b, rfl, rfl⟩
      · rename_i hb
        simp only [Option.some.injEq] at h; subst h
        rw [hg, hb]
        exact .inr ⟨false, true, by rw [cnd_F]; rfl, rfl⟩
      · cases h

def callF : Op → Option Nat
  | .call c => match c.callee with
    | .value (.func f) => some f
    | _ => none
  | _ => none
def opVals (op : Op) (s : XS) : List SV := op.operands.toList.map (xev s)
def preF (op : Op) (s : XS) : List Nat :=
  match callF op with
  | some f => bif nofr f then [] else rowsL (opVals op s)
  | none => []
def postF (op : Op) (s : XS) : List Nat :=
  match op with
  | .store _ _ y => rowsO s.o (xev s y)
  | op => (opVals op s).flatMap (rowsO s.o)
def XS.soft (s : XS) : XS := ⟨s.sl.mapT SV.soft, s.o, s.nk⟩
theorem XS.soft_ok {E : Ent} {s : XS} {a : Act} {w : World} (h : Rel E s.st a w) : Rel E s.soft.st a w := by
  obtain ⟨S, γ, h⟩ := h
  have e : ∀ u, (s.soft.st.sl u) = (s.st.sl u).soft := fun u => by
    simp only [XS.soft, XS.st, TM.get_mapT]
    cases s.sl.get u <;> rfl
  exact ⟨S, γ, h.sto, h.tr, fun u => by rw [e]; exact (h.sl u).soft, fun u => by rw [e]; exact SV.soft_lt (h.slt u), h.df, h.nn⟩

def xStep (ops : Array Oper) (op : Oper) (s : XS) : Option XS :=
  match xGuard ops s.sl op.guard with
  | none => none
  | some false => some ⟨putD s.sl op.dst (.tup []), s.o, s.nk⟩
  | some true => match s.frzs (preF nofr op.op s) with
    | s1 => match xOp Θ call op.op s1 with
      | some (v, o', nk') => some ⟨putD s1.sl op.dst v, o', nk'⟩
      | none => match (s1.frzs (postF op.op s1)).soft with
        | s2 => match xOp Θ call op.op s2 with
          | some (v, o', nk') => some ⟨putD s2.sl op.dst v, o', nk'⟩
          | none => none
def xOps (ops : Array Oper) : List Oper → XS → Option XS
  | [], s => some s
  | op :: r, s => match xStep Θ nofr call ops op s with
    | some s' => xOps ops r s'
    | none => none
end
section
variable {P : Program} {Θ : Tab} {nofr : Nat → Bool} {call : Nat → List SV → TM AO → Nat → Option XR}
def CallOk (P : Program) (call : Nat → List SV → TM AO → Nat → Option XR) : Prop := ∀ f asx o nk r o' nk', call f asx o nk = some (r, o', nk') → Spec P f asx o.get nk fun r2 o2 n2 => r2 = r ∧ o2 = o'.get ∧ n2 = nk'
theorem gdc_wanted {E : Ent} {s : St} {a : Act} {w : World} {ops : Array Oper} {o : Oper} {c : Bool} (hr : Rel E s a w) (h : gdc ops s o.guard c) : Region.wanted o (yielded ops a.tmps) = c := by
  unfold gdc at h
  unfold Region.wanted
  split at h
  · rename_i hg; rw [hg]; exact h.symm
  · rename_i j want hg
    rw [hg]
    exact guard_yield hr h
theorem xStep_ok (hΘ : TabOk P Θ) (hc : CallOk P call) {E : Ent} {ops : Array Oper} {op : Oper} {s s' : XS} {a : Act} {w : World} {next : Act → World → Prop} {Q : Exit → Act → World → Prop} (h : xStep Θ nofr call ops op s = some s') (hr : Rel E s.st a w) (hd : dstOk E.n op.dst = true)
    (hn : ∀ a' w', Rel E s'.st a' w' → next a' w') : if Region.wanted op (yielded ops a.tmps) then op.wp P a w next Q else next (a.put op.dst undef) w := by
  unfold xStep at h
  split at h
  · cases h
  · rename_i hg
    have hw := gdc_wanted (o := op) hr (xGuard_ok hg)
    rw [if_neg (by rw [hw]; simp)]
    simp only [Option.some.injEq] at h
    subst h
    refine hn _ _ ?_
    rw [put_st]
    obtain ⟨S, γ, hr⟩ := hr
    exact ⟨S, γ, hr.put hd hr.sto (Tr.refl _ _ _ _ _) (.tup [] [] rfl (by simp)) trivial⟩
  · rename_i hg
    have hw := gdc_wanted (o := op) hr (xGuard_ok hg)
    rw [if_pos (by rw [hw])]
    simp only at h
    have hr1 := XS.frzs_ok (preF nofr op.op s) hr
    generalize s.frzs (preF nofr op.op s) = s1 at h hr1
    split at h
    · rename_i v o' nk' hx
      simp only [Option.some.injEq] at h
      subst h
      refine op_step hΘ hr1 hd (xOp_ok hc hx (K := fun v2 o2 n2 => v2 = v ∧ o2 = o'.get ∧ n2 = nk') ⟨rfl, rfl, rfl⟩) ?_
      rintro v2 o2 n2 a' w' ⟨rfl, rfl, rfl⟩ hr'
      refine hn _ _ ?_
      rw [put_st]; exact hr'
    · have hr2 := XS.soft_ok (XS.frzs_ok (postF op.op s1) hr1)
      generalize (s1.frzs (postF op.op s1)).soft = s2 at h hr2
      split at h
      · rename_i v o' nk' hx
        simp only [Option.some.injEq] at h
        subst h
        refine op_step hΘ hr2 hd (xOp_ok hc hx (K := fun v2 o2 n2 => v2 = v ∧ o2 = o'.get ∧ n2 = nk') ⟨rfl, rfl, rfl⟩) ?_
        rintro v2 o2 n2 a' w' ⟨rfl, rfl, rfl⟩ hr'
        refine hn _ _ ?_
        rw [put_st]; exact hr'
      · cases h
theorem xOps_ok (hΘ : TabOk P Θ) (hc : CallOk P call) {E : Ent} {ops : Array Oper} {Q : Exit → Act → World → Prop} {s' : XS} (hq : ∀ a w, Rel E s'.st a w → Q .normal a w) :
    ∀ (l : List Oper) (s : XS) (a : Act) (w : World), (l.all fun o => dstOk E.n o.dst) = true → Rel E s.st a w → xOps Θ nofr call ops l s = some s' → wpList P ops Q l a w
  | [], s, a, w, _, hr, h => by
    simp only [xOps, Option.some.injEq] at h
    subst h
    exact hq a w hr
  | op :: r, s, a, w, hd, hr, h => by
    simp only [List.all_cons, Bool.and_eq_true] at hd
    simp only [xOps] at h
    split at h
    · rename_i s1 hs1
      refine wpList_step fun K hK => ?_
      exact xStep_ok hΘ hc hs1 hr hd.1 fun a' w' h1 => hK a' w' (xOps_ok hΘ hc hq r s1 a' w' hd.2 h1 h)
    · cases h
end
end Go.Proofs.YtmielecljgfnaaaGreat.Abs

/- A run of code that is computed: drawn regions, loops, calls. -/
set_option linter.unusedVariables false
set_option linter.unusedSimpArgs false
namespace Go.Proofs.YtmielecljgfnaaaGreat.Abs
open Go

def isW (op : Op) : Bool :=
  match op with
  | .store _ _ _ => true
  | .box _ _ => true
  | .alloc _ => true
  | .makeMap _ _ => true
  | .mapUpdate _ _ _ _ => true
  | .range _ _ => true
  | .next _ _ => true
  | .buildSlice _ n _ => Nat.beq n 0
  | .makeSlice _ _ _ => true
  | .call c => match c.callee with
    | .builtin .len => false
    | .builtin .max => false
    | .builtin .min => false
    | _ => true
  | _ => false
/-- What leaves the objects. -/
def isQ (op : Op) : Bool :=
  match op with
  | .move _ => true
  | .assign _ => true
  | .pick _ _ _ => true
  | .build _ _ => true
  | .load _ _ => true
  | .nilCheck _ => true
  | .binOp _ _ _ _ _ => true
  | .unOp _ _ _ => true
  | .convert _ _ _ => true
  | .makeFunc _ _ _ => true
  | .fieldAddr _ _ _ => true
  | .field _ _ _ => true
  | .indexAddr _ _ _ => true
  | .index _ _ _ => true
  | .extract _ _ => true
  | .buildSlice _ _ _ => true
  | .slice _ _ _ _ _ => true
  | .lookup _ _ _ _ => true
  | .call c => match c.callee with
    | .builtin b => match b with
      | .len => true
      | .max => true
      | .min => true
      | _ => false
    | _ => false
  | _ => false
section
variable {Θ : Tab} {call : Nat → List SV → TM AO → Nat → Option XR}
theorem xq0 {op : Op} {s : XS} {r : SV} {o' : TM AO} {nk' : Nat} (hq : isQ op = true) (h : xOp0 Θ call op s = some (r, o', nk')) (hn : nk' = s.nk) : o' = s.o := by
  have mp : ∀ {α : Type} {x : Option α} {f : α → SV}, x.map (fun v => (f v, s.o, s.nk)) = some (r, o', nk') → o' = s.o := fun h => by
    obtain ⟨v, _, h⟩ := Option.map_eq_some_iff.1 h
    simp only [Prod.mk.injEq] at h
    exact h.2.1.symm
  unfold xOp0 at h
  cases op <;> simp only [isQ, Bool.false_eq_true] at hq <;> simp only at h
  case move => simp only [Option.some.injEq, Prod.mk.injEq] at h; exact h.2.1.symm
  case assign => simp only [Option.some.injEq, Prod.mk.injEq] at h; exact h.2.1.symm
  case pick => split at h <;> first | (simp only [Option.some.injEq, Prod.mk.injEq] at h; exact h.2.1.symm) | cases h
  case build => exact mp h
  case load => exact mp h
  case binOp => exact mp (f := .d) h
  case unOp => exact mp (f := .d) h
  case convert => exact mp h
  case fieldAddr => exact mp h
  case field => exact mp h
  case indexAddr => exact mp h
  case lookup => cases h
  case nilCheck =>
    split at h
    · split at h
      · simp only [Option.some.injEq, Prod.mk.injEq] at h; exact h.2.1.symm
      · cases h
    all_goals first | (simp only [Option.some.injEq, Prod.mk.injEq] at h; exact h.2.1.symm) | cases h
  case makeFunc => split at h <;> first | (simp only [Option.some.injEq, Prod.mk.injEq] at h; exact h.2.1.symm) | cases h
  case index =>
    split at h
    · cases h
    · split at h
      · split at h <;> first | (simp only [Option.some.injEq, Prod.mk.injEq] at h; exact h.2.1.symm) | cases h
      · cases h
  case extract =>
    split at h
    · exact mp h
    · cases h
  case buildSlice =>
    unfold xbs at h
    repeat' (split at h)
    all_goals first | cases h; done | (simp only [Option.some.injEq, Prod.mk.injEq] at h; first | exact h.2.1.symm | omega)
  case slice =>
    unfold xsl at h
    repeat' (split at h)
    all_goals first | cases h; done | (simp only [Option.some.injEq, Prod.mk.injEq] at h; first | exact h.2.1.symm | omega)
  case call c =>
    obtain ⟨callee, asx, ts⟩ := c
    cases callee with
    | builtin b =>
      simp only at h hq
      split at h
      · exact mp h
      · simp at hq
      · exact mp (f := .d) h
      · exact mp (f := .d) h
      · cases h
    | _ => simp at hq

theorem nW0_q {op : Op} {ev : Operand → SV} {o : Nat → Option AO} {nk : Nat} (hq : isQ op = true) : nW0 Θ op ev o nk = none := by
  cases op <;> simp only [isQ, Bool.false_eq_true] at hq <;> simp only [nW0]
  case call c =>
    obtain ⟨callee, asx, ts⟩ := c
    cases callee with
    | builtin b => cases b <;> first | (simp at hq; done) | rfl
    | _ => simp at hq
theorem nWF_q {op : Op} {ev : Operand → SV} {o : Nat → Option AO} {nk : Nat} (hq : isQ op = true) : ∀ l : List Operand, nWF Θ op ev o nk l = none
  | [] => rfl
  | x :: l => by
    have ih := nWF_q (ev := ev) (o := o) (nk := nk) hq l
    simp only [nWF]
    split
    · split
      · rw [nW0_q hq]; exact ih
      · exact ih
    · exact ih
theorem xq {op : Op} {s : XS} {r : SV} {o' : TM AO} {nk' : Nat} (hq : isQ op = true) (h : xOp Θ call op s = some (r, o', nk')) (hn : nk' = s.nk) : o' = s.o := by
  unfold xOp at h
  split at h
  · simp only [Option.some.injEq, Prod.mk.injEq] at h
    exact h.2.1.symm
  · rw [nW0_q hq] at h
    simp only at h
    split at h
    · rename_i r0 h0
      simp only [Option.some.injEq] at h
      subst h
      exact xq0 hq h0 hn
    · rw [nWF_q hq] at h
      cases h
/-- One operation, heeding its guard. -/
def xG (Θ : Tab) (call : Nat → List SV → TM AO → Nat → Option XR) (ops : Array Oper) (op : Oper) (s : XS) : Option XR :=
  match xGuard ops s.sl op.guard with
  | none => none
  | some false => some (.tup [], s.o, s.nk)
  | some true => xOp Θ call op.op s

/-- All that is done, one behind the other: what is yielded, and the objects behind every change. -/
def xDr (Θ : Tab) (call : Nat → List SV → TM AO → Nat → Option XR) (ops : Array Oper) : List Oper → List Kd → XS → Option (List SV × List (TM AO × Nat) × TM SV)
  | [], [], s => some ([], [], s.sl)
  | op :: r, .w _ :: ks, s => match xG Θ call ops op s with
    | none => none
    | some (v, o', nk') => match xDr Θ call ops r ks ⟨putD s.sl op.dst v, o', nk'⟩ with
      | none => none
      | some (vs, phs, sl) => some (v :: vs, (o', nk') :: phs, sl)
  | op :: r, .q _ _ :: ks, s => match xG Θ call ops op s with
    | none => none
    | some (v, _, _) => match xDr Θ call ops r ks ⟨putD s.sl op.dst v, s.o, s.nk⟩ with
      | none => none
      | some (vs, phs, sl) => some (v :: vs, phs, sl)
  | _, _, _ => none
def allX (n : Nat) (p : Nat → Bool) (lo : Nat) : Bool :=
  match n with
  | 0 => p lo
  | n + 1 => p lo && allX n p (lo + 1)
/-- What only looks yields the same whenever it is its turn. -/
def xChk (Θ : Tab) (call : Nat → List SV → TM AO → Nat → Option XR) (ops : Array Oper) (L : List (TM AO × Nat)) : List Oper → List Kd → List SV → TM SV → Nat → Bool
  | [], [], [], _, _ => true
  | op :: r, .w j :: ks, v :: vs, sl, p => decide (j = p) && xChk Θ call ops L r ks vs (putD sl op.dst v) (p + 1)
  | op :: r, .q lo hi :: ks, v :: vs, sl, p => isQ op.op && (allX (hi - lo) (fun q => match L[q]? with
      | none => false
      | some (o, nk) => match xG Θ call ops op ⟨sl, o, nk⟩ with
        | none => false
        | some (v2, _, nk2) => SV.eqb v v2 && decide (nk2 = nk)) lo) && xChk Θ call ops L r ks vs (putD sl op.dst v) p
  | _, _, _, _, _ => false
theorem xG_q {ops : Array Oper} {op : Oper} {s : XS} {v : SV} {o' : TM AO} {nk' : Nat} {P : Program} (hc : CallOk P call) (hq : isQ op.op = true) (h : xG Θ call ops op s = some (v, o', nk')) (hn : nk' = s.nk) : gOp P Θ ops op s.st v := by
  unfold xG at h
  split at h
  · cases h
  · rename_i hg
    have hg2 := xGuard_ok hg
    simp only [Option.some.injEq, Prod.mk.injEq] at h
    obtain ⟨rfl, _, _⟩ := h
    unfold gOp
    unfold gdc at hg2
    split at hg2
    · cases hg2
    · rename_i j want hgu
      rw [hgu]
      exact ⟨false, .any, hg2, fun e => (by cases e), (cnd_F _).symm⟩
  · rename_i hg
    have hg2 := xGuard_ok hg
    have ho := xq hq h hn
    subst ho; subst hn
    have hv : pOp P Θ op.op s.st v := xOp_ok hc h ⟨rfl, rfl, rfl⟩
    unfold gOp
    unfold gdc at hg2
    split at hg2
    · rename_i hgu; rw [hgu]; exact hv
    · rename_i j want hgu
      rw [hgu]
      exact ⟨true, v, hg2, fun _ => hv, (cnd_T v).symm⟩
theorem allX_ok {p : Nat → Bool} {R : Nat → Prop} (h : ∀ q, p q = true → R q) : ∀ (n lo : Nat), allX n p lo = true → allP n R lo
  | 0, lo, h1 => h lo h1
  | n + 1, lo, h1 => by
    simp only [allX, Bool.and_eq_true] at h1
    exact ⟨h lo h1.1, allX_ok h n (lo + 1) h1.2⟩
def phx (L : List (TM AO × Nat)) : Nat → Ob := fun p => match L[p]? with
  | some (o, nk) => (o.get, nk)
  | none => (fun _ => none, 0)
theorem xDr_ok {P : Program} (hc : CallOk P call) {ops : Array Oper} {K : St → Prop} {L : List (TM AO × Nat)} {m : Nat} {fin : XS} (hK : K fin.st) (hm : L[m]? = some (fin.o, fin.nk)) :
    ∀ (l : List Oper) (ks : List Kd) (s : XS) (vs : List SV) (phs pre : List (TM AO × Nat)) (p : Nat), xDr Θ call ops l ks s = some (vs, phs, fin.sl) → pre.length = p → L = pre ++ (s.o, s.nk) :: phs →
      m = p + phs.length → xChk Θ call ops L l ks vs s.sl p = true → eOps P Θ ops K (phx L) m l ks s.st.sl
  | [], [], s, vs, phs, pre, p, h, hp, hL, hmp, hk => by
    simp only [xDr, Option.some.injEq, Prod.mk.injEq] at h
    obtain ⟨rfl, rfl, h3⟩ := h
    show K ⟨s.st.sl, (phx L m).1, (phx L m).2⟩
    simp only [phx, hm]
    have : (⟨s.st.sl, fin.o.get, fin.nk⟩ : St) = fin.st := by simp only [XS.st, h3]
    rw [this]; exact hK
  | [], k :: ks, s, vs, phs, pre, p, h, hp, hL, hmp, hk => by simp [xDr] at h
  | op :: r, [], s, vs, phs, pre, p, h, hp, hL, hmp, hk => by simp [xDr] at h
  | op :: r, .w j :: ks, s, vs, phs, pre, p, h, hp, hL, hmp, hk => by
    simp only [xDr] at h
    split at h
    · cases h
    · rename_i v o' nk' hx
      split at h
      · cases h
      · rename_i vs' phs' sl' hx'
        simp only [Option.some.injEq, Prod.mk.injEq] at h
        obtain ⟨rfl, rfl, rfl⟩ := h
        simp only [xChk, Bool.and_eq_true, decide_eq_true_eq] at hk
        obtain ⟨rfl, hk⟩ := hk
        have hLp : L[j]? = some (s.o, s.nk) := by rw [hL, List.getElem?_append_right (by omega), hp]; simp
        have hLp1 : L[j + 1]? = some (o', nk') := by rw [hL, List.getElem?_append_right (by omega), hp]; simp
        have ih := xDr_ok hc hK hm r ks ⟨putD s.sl op.dst v, o', nk'⟩ vs' phs' (pre ++ [(s.o, s.nk)]) (j + 1) hx' (by simp [hp]) (by rw [hL]; simp) (by simp only [List.length_cons] at hmp; omega) hk
        refine ⟨v, ?_, by rw [put_st] at ih; exact ih⟩
        simp only [eOp, phx, hLp, hLp1]
        unfold xG at hx
        split at hx
        · cases hx
        · rename_i hg
          simp only [Option.some.injEq, Prod.mk.injEq] at hx
          obtain ⟨rfl, rfl, rfl⟩ := hx
          exact ⟨false, .any, xGuard_ok hg, fun e => (by cases e), fun _ => rfl, (cnd_F _).symm⟩
        · rename_i hg
          exact ⟨true, v, xGuard_ok hg, fun _ => xOp_ok hc hx ⟨rfl, rfl, rfl⟩, fun e => (by cases e), (cnd_T v).symm⟩
  | op :: r, .q lo hi :: ks, s, vs, phs, pre, p, h, hp, hL, hmp, hk => by
    simp only [xDr] at h
    split at h
    · cases h
    · rename_i v o' nk' hx
      split at h
      · cases h
      · rename_i vs' phs' sl' hx'
        simp only [Option.some.injEq, Prod.mk.injEq] at h
        obtain ⟨rfl, rfl, rfl⟩ := h
        simp only [xChk, Bool.and_eq_true] at hk
        obtain ⟨⟨hq, hall⟩, hk⟩ := hk
        have ih := xDr_ok hc hK hm r ks ⟨putD s.sl op.dst v, s.o, s.nk⟩ vs' phs' pre p hx' hp hL hmp hk
        refine ⟨v, ?_, by rw [put_st] at ih; exact ih⟩
        simp only [eOp]
        refine allX_ok (fun q hqq => ?_) _ _ hall
        split at hqq
        · cases hqq
        · rename_i o2 nk2 hLq
          split at hqq
          · cases hqq
          · rename_i v2 o3 nk3 hg
            simp only [Bool.and_eq_true, decide_eq_true_eq] at hqq
            have hv := SV.eqb_ok hqq.1
            subst hv
            have := xG_q (P := P) hc hq hg hqq.2
            simp only [phx, hLq]
            exact this
end

def takeN (p : Nat → Bool) : List Nat → Nat
  | [] => 0
  | x :: r => bif p x then takeN p r + 1 else 0
def kdGo (an : List (List Nat)) (ws : List Nat) : List Oper → Nat → Nat → List Kd
  | [], _, _ => []
  | op :: r, i, j => bif isW op.op then .w j :: kdGo an ws r (i + 1) (j + 1)
    else .q (takeN (fun w => (an.getD i []).contains w) ws) (takeN (fun w => !(an.getD w []).contains i) ws) :: kdGo an ws r (i + 1) j
def wrGo : List Oper → Nat → List Nat
  | [], _ => []
  | op :: r, i => bif isW op.op then i :: wrGo r (i + 1) else wrGo r (i + 1)
section
variable (Θ : Tab) (nofr : Nat → Bool) (call : Nat → List SV → TM AO → Nat → Option XR)
def xDraw (ops : Array Oper) (s : XS) : Option XS :=
  match ops.toList with
  | l => match wrGo l 0 with
    | wr => match kdGo (ancs l l.length) wr l 0 0 with
      | kd => bif flowOk ops && phOk l kd wr then match xDr Θ call ops l kd s with
          | none => none
          | some (vs, phs, sl) => match (s.o, s.nk) :: phs with
            | L => bif xChk Θ call ops L l kd vs s.sl 0 then match L[wr.length]? with
                | none => none
                | some (o, nk) => bif Nat.beq wr.length phs.length then some ⟨sl, o, nk⟩ else none
              else none
        else none
theorem xDraw_ok {P : Program} {n k0 : Nat} {Q : Exit → St → Prop} (hΘ : TabOk P Θ) (hm : P.follows .mixedOrders = true) (hc : CallOk P call) {id : Nat} {ops : Array Oper} {s s' : XS} (hd : (ops.toList.all fun o => dstOk n o.dst) = true) (h : xDraw Θ call ops s = some s') (hQ : Q .normal s'.st) :
    WP P n k0 (.region id ops true) s.st Q := by
  unfold xDraw at h
  simp only at h
  cases hb : flowOk ops && phOk ops.toList (kdGo (ancs ops.toList ops.toList.length) (wrGo ops.toList 0) ops.toList 0 0) (wrGo ops.toList 0) with
  | false => rw [hb] at h; cases h
  | true =>
    rw [hb] at h
    simp only [cond_true] at h
    simp only [Bool.and_eq_true] at hb
    split at h
    · cases h
    · rename_i vs phs sl hx
      cases hk : xChk Θ call ops ((s.o, s.nk) :: phs) ops.toList (kdGo (ancs ops.toList ops.toList.length) (wrGo ops.toList 0) ops.toList 0 0) vs s.sl 0 with
      | false => rw [hk] at h; cases h
      | true =>
        rw [hk] at h
        simp only [cond_true] at h
        split at h
        · cases h
        · rename_i o nk hL
          cases he : Nat.beq (wrGo ops.toList 0).length phs.length with
          | false => rw [he] at h; cases h
          | true =>
            rw [he] at h
            simp only [cond_true, Option.some.injEq] at h
            subst h
            have hlen := Nat.eq_of_beq_eq_true he
            have := WP.drawnW (P := P) (Θ := Θ) (n := n) (k0 := k0) (Q := Q) hΘ hm (sl := s.st.sl) (id := id) (ops := ops) _ _ (phx ((s.o, s.nk) :: phs)) hd hb.1 hb.2
              (xDr_ok hc (fin := ⟨sl, o, nk⟩) hQ hL _ _ s vs phs [] 0 hx rfl rfl (by omega) hk)
            exact this
end
end Go.Proofs.YtmielecljgfnaaaGreat.Abs

/- Pending allocs: a block that is there, and that nothing is told of yet, becomes an object; an object that is told of in one slot alone becomes such a block. -/
set_option linter.unusedVariables false
set_option linter.unusedSimpArgs false
namespace Go.Proofs.YtmielecljgfnaaaGreat.Abs
open Go

/-- A block of cells that nothing is told of. -/
structure Pend (w0 : World) (w : World) (S : Nat → Prop) (γ : Nat → Value) (o : Nat → Option AO) (g : Nat) (l : List D) : Prop where
  mk ::
  cells : ∃ arr ty, w.heap[g]? = some (.cells arr ty (0, 0)) ∧ arr.size = l.length ∧ ∀ (i : Nat) (c : D) (u : Value), l[i]? = some c → arr[i]? = some u → Rd w S c u
  new : w0.heap.size ≤ g
  lt : g < w.heap.size
  ns : ¬ S g
  nl : ¬ Live γ o g

theorem Sto.adopt {w : World} {S : Nat → Prop} {γ : Nat → Value} {o : Nat → Option AO} {nk : Nat} (h : Sto w S γ o nk) {w0 : World} {g : Nat} {l : List D} (hp : Pend w0 w S γ o g l) :
    Sto w S (upd γ nk (.pointer (some ⟨g, 0, none⟩))) (upd o nk (some (.box (l.map .d)))) (nk + 1) := by
  obtain ⟨⟨arr, ty, hg0, hsz, hr⟩, hw0, hlt, hns, hnl⟩ := hp
  have hne : ∀ t x, o t = some x → t ≠ nk := fun t x hx e => by have := h.o_lt t x hx; omega
  have hkeys : ∀ t x, t < nk → upd o nk (some (.box (l.map .d))) t = some x → ∃ y, o t = some y ∧ AO.kin y x ∧ upd γ nk (.pointer (some ⟨g, 0, none⟩)) t = γ t := by
    intro t x ht hx
    rw [upd_ne _ _ (by omega)] at hx
    exact ⟨x, hx, AO.kin_refl x, upd_ne _ _ (by omega)⟩
  have hlive : ∀ t x g', upd o nk (some (.box (l.map .d))) t = some x → blk (upd γ nk (.pointer (some ⟨g, 0, none⟩)) t) = some g' → (t = nk ∧ g' = g) ∨ (t ≠ nk ∧ o t = some x ∧ blk (γ t) = some g') := by
    intro t x g' hx hg
    by_cases ht : t = nk
    · subst ht
      rw [upd_same] at hg
      simp [blk] at hg
      exact .inl ⟨rfl, hg.symm⟩
    · rw [upd_ne _ _ ht] at hx hg
      exact .inr ⟨ht, hx, hg⟩
  refine ⟨h.s_lt, ?_, ?_, ?_, ?_, ?_, ?_⟩
  · intro t x hx
    by_cases ht : t = nk
    · omega
    · rw [upd_ne _ _ ht] at hx
      have := h.o_lt t x hx; omega
  · intro t cs' hc
    by_cases ht : t = nk
    · subst ht
      rw [upd_same] at hc
      simp at hc
      subst hc
      rw [upd_same]
      refine ⟨⟨g, arr, ty, rfl, hg0, by simp [hsz], fun i c u h1 h2 => ?_⟩, lts_of fun i c hc => ?_⟩
      · rw [List.getElem?_map] at h1
        obtain ⟨d, hd, rfl⟩ := Option.map_eq_some_iff.1 h1
        exact .d _ _ (hr i d u hd h2)
      · rw [List.getElem?_map] at hc
        obtain ⟨d, hd, rfl⟩ := Option.map_eq_some_iff.1 hc
        trivial
    · rw [upd_ne _ _ ht] at hc
      obtain ⟨⟨g', arr', ty', h4, h5, h6, h7⟩, hl'⟩ := h.box t cs' hc
      rw [upd_ne _ _ ht]
      exact ⟨⟨g', arr', ty', h4, h5, h6, fun i c u h8 h9 => (h7 i c u h8 h9).move (fun _ h => h) (fun _ _ => rfl) hkeys (lts_get hl' i c h8)⟩, SV.lts_mono (Nat.le_succ _) hl'⟩
  · intro t e z xs hx
    by_cases ht : t = nk
    · subst ht; rw [upd_same] at hx; cases hx
    · rw [upd_ne _ _ ht] at hx
      rw [upd_ne _ _ ht]
      exact h.row t e z xs hx
  · intro t ob hx
    by_cases ht : t = nk
    · subst ht; rw [upd_same] at hx; cases hx
    · rw [upd_ne _ _ ht] at hx
      rw [upd_ne _ _ ht]
      exact h.raw t ob hx
  · intro t x g' hx hg
    rcases hlive t x g' hx hg with ⟨_, rfl⟩ | ⟨_, h1, h2⟩
    · exact ⟨hns, hlt⟩
    · exact h.away t x g' h1 h2
  · intro t t' x x' g' hne' hx hx' hg hg'
    rcases hlive t x g' hx hg with ⟨h1, h2⟩ | ⟨h1, h2, h3⟩ <;> rcases hlive t' x' g' hx' hg' with ⟨h1', h2'⟩ | ⟨h1', h2', h3'⟩
    · exact hne' (h1.trans h1'.symm)
    · subst h2; exact hnl ⟨t', x', h2', h3'⟩
    · subst h2'; exact hnl ⟨t, x, h2, h3⟩
    · exact h.apart t t' x x' g' hne' h2 h2' h3 h3'
/-- It stays pending through a step. -/
theorem Pend.tr {w0 w w' : World} {S S' : Nat → Prop} {γ γ' : Nat → Value} {o o' : Nat → Option AO} {nk nk' g : Nat} {l : List D} (hs : Sto w S γ o nk) (ht : Tr w S γ o nk w' S' γ' o' nk') (hp : Pend w0 w S γ o g l) : Pend w0 w' S' γ' o' g l := by
  obtain ⟨⟨arr, ty, hg0, hsz, hr⟩, hw0, hlt, hns, hnl⟩ := hp
  refine ⟨⟨arr, ty, by rw [ht.kept g hlt hnl]; exact hg0, hsz, fun i c u h1 h2 => ht.rd hs (hr i c u h1 h2)⟩, hw0, Nat.lt_of_lt_of_le hlt ht.size, fun h => ?_, fun h => ?_⟩
  · rcases ht.s_new g h with h1 | h1 | h1
    · exact hns h1
    · omega
    · exact hnl h1
  · rcases ht.live g h with h1 | h1
    · omega
    · exact hnl h1
/-- What is told of the frame once the block in slot t is an object. -/
theorem Rl.adopt {E : Ent} {s : St} {a : Act} {w : World} {S : Nat → Prop} {γ : Nat → Value} (hr : Rl E s a w S γ) {g t : Nat} {l : List D} (hp : Pend E.w w S γ s.o g l) (ht : a.tmps.getD t undef = .pointer (some ⟨g, 0, none⟩)) :
    Rl E { sl := upd s.sl t (.loc s.nk 0), o := upd s.o s.nk (some (.box (l.map .d))), nk := s.nk + 1 } a w S (upd γ s.nk (.pointer (some ⟨g, 0, none⟩))) := by
  have hsto := hr.sto.adopt hp
  have hkeys : ∀ u x, u < s.nk → upd s.o s.nk (some (.box (l.map .d))) u = some x → ∃ y, s.o u = some y ∧ AO.kin y x ∧ upd γ s.nk (.pointer (some ⟨g, 0, none⟩)) u = γ u := by
    intro u x hu hx
    rw [upd_ne _ _ (by omega)] at hx
    exact ⟨x, hx, AO.kin_refl x, upd_ne _ _ (by omega)⟩
  have hstep : Tr E.w E.S E.γ E.o E.nk w S (upd γ s.nk (.pointer (some ⟨g, 0, none⟩))) (upd s.o s.nk (some (.box (l.map .d)))) (s.nk + 1) := by
    refine ⟨hr.tr.os, hr.tr.tape, hr.tr.output, hr.tr.size, Nat.le_succ_of_le hr.tr.nks, hr.tr.kept, hr.tr.s, hr.tr.s_new, ?_, ?_⟩
    · rintro g' ⟨u, x, hx, hg⟩
      by_cases hu : u = s.nk
      · subst hu
        rw [upd_same] at hg
        simp [blk] at hg
        subst hg
        exact .inl hp.new
      · rw [upd_ne _ _ hu] at hx hg
        exact hr.tr.live g' ⟨u, x, hx, hg⟩
    · intro u x hu hx
      have hlt : u < s.nk := Nat.lt_of_lt_of_le hu hr.tr.nks
      obtain ⟨y, hy, hk, hg⟩ := hkeys u x hlt hx
      obtain ⟨z, hz, hk', hg'⟩ := hr.tr.keys u y hu hy
      exact ⟨z, hz, AO.kin_trans hk' hk, hg.trans hg'⟩
  refine ⟨hsto, hstep, fun u => ?_, fun u => ?_, hr.df, hr.nn⟩
  · show SR w S _ _ (upd s.sl t (.loc s.nk 0) u) _
    by_cases hu : u = t
    · subst hu
      rw [upd_same, ht]
      exact .loc _ _ _ fun cs _ => ⟨g, upd_same _ _ _, rfl⟩
    · rw [upd_ne _ _ hu]
      exact (hr.sl u).move (fun _ h => h) (fun _ _ => rfl) hkeys (hr.slt u)
  · show (upd s.sl t (.loc s.nk 0) u).lt (s.nk + 1)
    by_cases hu : u = t
    · subst hu; rw [upd_same]; exact Nat.lt_succ_self _
    · rw [upd_ne _ _ hu]; exact SV.lt_mono (Nat.le_succ _) (hr.slt u)
section
variable {P : Program} {Θ : Tab}
/-- An alloc of which nothing is told but that its block is there. -/
theorem alloc_pend (hΘ : TabOk P Θ) {E : Ent} {s : St} {a : Act} {w : World} {S : Nat → Prop} {γ : Nat → Value} {o : Oper} {e t : Nat} {i : TI} {l : List D} {next : Act → World → Prop} {Q : Exit → Act → World → Prop} (hr : Rl E s a w S γ) (ho : o.op = .alloc e) (hd : o.dst = some t) (htn : t < E.n) (hi : Θ e = some i) (hz : i.z = some l)
    (hn : ∀ u w' S' γ' g, Rl E { sl := upd s.sl t .any, o := s.o, nk := s.nk } (a.put (some t) u) w' S' γ' → u = .pointer (some ⟨g, 0, none⟩) → w.heap.size ≤ g → Pend E.w w' S' γ' s.o g l → Tr w S γ s.o s.nk w' S' γ' s.o s.nk → next (a.put (some t) u) w') : o.wp P a w next Q := by
  have hv : vOp P Θ o.op s fun v o' nk' => v = .loc s.nk 0 ∧ o' = upd s.o s.nk (some (.box (l.map .d))) ∧ nk' = s.nk + 1 := by
    rw [ho]; exact .inl ⟨i, l, hi, hz, rfl, rfl, rfl⟩
  refine upon_of_eff (vOp_sound hΘ hr.fr hv) ?_
  rintro u w' ⟨v, o', nk', S', γ', ⟨rfl, rfl, rfl⟩, h1, h2, h3, h4⟩
  have hob : upd s.o s.nk (some (.box (l.map .d))) s.nk = some (.box (l.map .d)) := upd_same _ _ _
  obtain ⟨⟨g, arr, ty, hg1, hg2, hg3, hg4⟩, _⟩ := h1.box s.nk _ hob
  have hold : ∀ t x, s.o t = some x → t < s.nk ∧ upd s.o s.nk (some (.box (l.map .d))) t = some x := fun t x hx => by
    have := hr.sto.o_lt t x hx
    exact ⟨this, by rw [upd_ne _ _ (by omega)]; exact hx⟩
  have hbg : blk (γ' s.nk) = some g := by rw [hg1]; rfl
  have hnl : ¬ Live γ' s.o g := by
    rintro ⟨t, x, hx, hb⟩
    obtain ⟨hlt, hx'⟩ := hold t x hx
    exact h1.apart t s.nk x _ g (by omega) hx' hob hb hbg
  have hnew : w.heap.size ≤ g := by
    rcases h2.live g ⟨s.nk, _, hob, hbg⟩ with h | ⟨t, x, hx, hb⟩
    · exact h
    · obtain ⟨hlt, hx'⟩ := hold t x hx
      obtain ⟨_, _, _, hge⟩ := h2.keys t x hlt hx'
      exact absurd ⟨t, x, hx, by rw [hge]; exact hb⟩ hnl
  have hwk : Wko s.nk id (upd s.o s.nk (some (.box (l.map .d)))) s.o s.nk := by
    refine ⟨Nat.le_refl _, fun t x hx => ?_, fun t t' x x' _ _ h => h, fun _ _ _ _ => rfl⟩
    obtain ⟨hlt, hx'⟩ := hold t x hx
    refine ⟨hlt, by rw [AO.ren_id]; exact hx', ?_⟩
    cases x with
    | box cs => exact (hr.sto.box t cs hx).2
    | _ => trivial
  have hs' : Sto w' S' γ' s.o s.nk := hwk.sto h1
  have ht' : Tr w S γ s.o s.nk w' S' γ' s.o s.nk := hwk.tr h2
  have hu : u = .pointer (some ⟨g, 0, none⟩) := by
    cases h3 with
    | loc _ _ _ hv =>
      obtain ⟨g', k1, k2⟩ := hv _ hob
      rw [hg1] at k1
      simp at k1
      rw [k2, k1]
  have hp := hr.put (d := some t) (by simpa [dstOk] using htn) hs' ht' (.any u) trivial
  rw [hd]
  refine hn u w' S' γ' g hp hu hnew ⟨⟨arr, ty, hg2, by simpa using hg3, fun i c x hc hx => ?_⟩, Nat.le_trans hr.tr.size hnew, (h1.away s.nk _ g hob hbg).2, (h1.away s.nk _ g hob hbg).1, hnl⟩ ht'
  have := hg4 i (.d c) x (by rw [List.getElem?_map, hc]; rfl) hx
  cases this with
  | d _ _ h => exact h
theorem op_stepL {E : Ent} {s : St} {a : Act} {w : World} {S : Nat → Prop} {γ : Nat → Value} (hΘ : TabOk P Θ) {o : Oper} {next : Act → World → Prop} {Q : Exit → Act → World → Prop} {K : SV → (Nat → Option AO) → Nat → Prop} (hr : Rl E s a w S γ) (hd : dstOk E.n o.dst = true) (h : vOp P Θ o.op s K)
    (hn : ∀ v o' nk' u w' S' γ', K v o' nk' → Rl E { sl := pt s.sl o.dst v, o := o', nk := nk' } (a.put o.dst u) w' S' γ' → Tr w S γ s.o s.nk w' S' γ' o' nk' → next (a.put o.dst u) w') : o.wp P a w next Q := by
  refine upon_of_eff (vOp_sound hΘ hr.fr h) ?_
  rintro u w' ⟨v, o', nk', S', γ', hK, h1, h2, h3, h4⟩
  exact hn v o' nk' u w' S' γ' hK (hr.put hd h1 h2 h3 h4) h2
theorem g_stepL {E : Ent} {s : St} {a : Act} {w : World} {S : Nat → Prop} {γ : Nat → Value} (hΘ : TabOk P Θ) {ops : Array Oper} {o : Oper} {next : Act → World → Prop} {Q : Exit → Act → World → Prop} {v : SV} (hr : Rl E s a w S γ) (hd : dstOk E.n o.dst = true)
    (h : gOp P Θ ops o s v) (hn : ∀ u w' S' γ', Rl E { sl := pt s.sl o.dst v, o := s.o, nk := s.nk } (a.put o.dst u) w' S' γ' → Tr w S γ s.o s.nk w' S' γ' s.o s.nk → next (a.put o.dst u) w') :
    if Region.wanted o (yielded ops a.tmps) then o.wp P a w next Q else next (a.put o.dst undef) w := by
  unfold gOp at h
  unfold Region.wanted
  split at h
  · rename_i hg
    rw [hg]
    simp only [if_true]
    refine op_stepL hΘ hr hd h ?_
    rintro v' o' nk' u w' S' γ' ⟨rfl, rfl, rfl⟩ hr' ht
    exact hn u w' S' γ' hr' ht
  · rename_i j want hg
    rw [hg]
    obtain ⟨c, v', h1, h2, rfl⟩ := h
    have hy := guard_yield ⟨S, γ, hr⟩ h1
    simp only [hy]
    cases c with
    | true =>
      rw [if_pos rfl]
      refine op_stepL hΘ hr hd (h2 rfl) ?_
      rintro v' o' nk' u w' S' γ' ⟨rfl, rfl, rfl⟩ hr' ht
      exact hn u w' S' γ' (by rw [cnd_T]; exact hr') ht
    | false =>
      rw [if_neg (by simp)]
      exact hn undef w S γ (by rw [cnd_F]; exact hr.put hd hr.sto (Tr.refl _ _ _ _ _) (.tup [] [] rfl (by simp)) trivial) (Tr.refl _ _ _ _ _)
/-- What is pending in a slot. -/
def PendAt (E : Ent) (a : Act) (w : World) (S : Nat → Prop) (γ : Nat → Value) (o : Nat → Option AO) (g t : Nat) (l : List D) : Prop := a.tmps.getD t undef = .pointer (some ⟨g, 0, none⟩) ∧ Pend E.w w S γ o g l
theorem put_get (a : Act) (d : Option Nat) (u : Value) {t : Nat} (h : d ≠ some t) : (a.put d u).tmps.getD t undef = a.tmps.getD t undef := by
  cases d with
  | none => rfl
  | some d =>
    have hne : d ≠ t := fun e => h (by rw [e])
    simp [Act.put, Array.getElem?_setIfInBounds_ne hne]
theorem PendAt.step {E : Ent} {a : Act} {w w' : World} {S S' : Nat → Prop} {γ γ' : Nat → Value} {o o' : Nat → Option AO} {nk nk' g t : Nat} {l : List D} {d : Option Nat} {u : Value} (hs : Sto w S γ o nk) (ht : Tr w S γ o nk w' S' γ' o' nk') (hd : d ≠ some t) (h : PendAt E a w S γ o g t l) :
    PendAt E (a.put d u) w' S' γ' o' g t l := ⟨by rw [put_get a d u hd]; exact h.1, h.2.tr hs ht⟩
/-- Another block than the one that becomes an object stays pending. -/
theorem PendAt.adopt {E : Ent} {a : Act} {w : World} {S : Nat → Prop} {γ : Nat → Value} {o : Nat → Option AO} {nk g g2 t : Nat} {l l2 : List D} (h : PendAt E a w S γ o g t l) (hlt : ∀ t x, o t = some x → t < nk) (hne : g ≠ g2) :
    PendAt E a w S (upd γ nk (.pointer (some ⟨g2, 0, none⟩))) (upd o nk (some (.box (l2.map .d)))) g t l := by
  refine ⟨h.1, h.2.cells, h.2.new, h.2.lt, h.2.ns, ?_⟩
  rintro ⟨u, x, hx, hb⟩
  by_cases hu : u = nk
  · subst hu
    rw [upd_same] at hb
    simp [blk] at hb
    exact hne hb.symm
  · rw [upd_ne _ _ hu] at hx hb
    exact h.2.nl ⟨u, x, hx, hb⟩
end
/-- One more operation listed. -/
theorem slL_set {sl : Nat → SV} {prs : List (Option Nat × SV)} {lm : Array Bool} {i : Nat} {d : Option Nat} {v : SV} (huniq : Uniq prs) (hpv : prs[i]? = some (d, v)) (hi : i < lm.size) : slL sl prs (lm.setIfInBounds i true) = pt (slL sl prs lm) d v := by
  have hli : (lm.setIfInBounds i true).getD i false = true := by simp [hi]
  have hlf : ∀ j, j ≠ i → (lm.setIfInBounds i true).getD j false = lm.getD j false := fun j hj => getD_set_ne false (Ne.symm hj)
  funext u
  by_cases hex : ∃ (j : Nat) (x : SV), prs[j]? = some (some u, x)
  · obtain ⟨j, x, hj⟩ := hex
    by_cases hji : j = i
    · subst hji
      rw [hj] at hpv
      simp only [Option.some.injEq, Prod.mk.injEq] at hpv
      obtain ⟨h1, h2⟩ := hpv
      rw [slL_hit huniq hj hli, ← h1, h2]
      exact (upd_same _ _ _).symm
    · have hne : d ≠ some u := fun e => hji (huniq j i u x v hj (by rw [hpv, e]))
      have hp : pt (slL sl prs lm) d v u = slL sl prs lm u := by
        cases hod : d with
        | none => rfl
        | some d => exact upd_ne _ _ fun e => hne (by rw [hod, e])
      rw [hp]
      by_cases hl : lm.getD j false = true
      · rw [slL_hit huniq hj hl, slL_hit huniq hj (by rw [hlf j hji]; exact hl)]
      · rw [slL_miss, slL_miss]
        · intro k y hk hlk
          have := huniq k j u y x hk hj
          subst this
          exact hl hlk
        · intro k y hk hlk
          have := huniq k j u y x hk hj
          subst this
          rw [hlf k hji] at hlk
          exact hl hlk
  · have hne : d ≠ some u := fun e => hex ⟨i, v, by rw [hpv, e]⟩
    have hp : pt (slL sl prs lm) d v u = slL sl prs lm u := by
      cases hod : d with
      | none => rfl
      | some d => exact upd_ne _ _ fun e => hne (by rw [hod, e])
    rw [hp, slL_miss, slL_miss]
    · exact fun k y hk _ => hex ⟨k, y, hk⟩
    · exact fun k y hk _ => hex ⟨k, y, hk⟩
end Go.Proofs.YtmielecljgfnaaaGreat.Abs
