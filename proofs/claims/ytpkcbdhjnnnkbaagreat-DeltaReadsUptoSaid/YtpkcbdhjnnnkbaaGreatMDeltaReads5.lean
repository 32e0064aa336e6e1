/- Part 5 of the proof that DeltaReads: called with any bytes and any number that hold together at most 1048576 values and letters, the law answers true, and the bytes read afterwards as they read before. -/
import Derived.Test.YtpkcbdhjnnnkbaaGreatMDeltaReads4
/- A run of code that is computed: drawn regions with allocs that no edge orders. -/
set_option linter.unusedVariables false
set_option linter.unusedSimpArgs false
namespace Go.Proofs.YtpkcbdhjnnnkbaaGreat.Abs
open Go

/-! ### the kinds, checked -/
def nodupN : List Nat → Bool
  | [] => true
  | x :: r => !r.contains x && nodupN r
theorem nodupN_ok : ∀ {l : List Nat}, nodupN l = true → l.Nodup
  | [], _ => List.nodup_nil
  | x :: r, h => by
    simp only [nodupN, Bool.and_eq_true, Bool.not_eq_true', List.contains_eq_mem, decide_eq_false_iff_not] at h
    exact List.nodup_cons.2 ⟨h.1, nodupN_ok h.2⟩
def isKw (k : Option KdP) (j : Nat) : Bool :=
  match k with
  | some (.w i) => decide (i = j)
  | _ => false
theorem isKw_ok {k : Option KdP} {j : Nat} (h : isKw k j = true) : k = some (.w j) := by
  unfold isKw at h
  split at h
  · simp at h; rw [h]
  · cases h
def isKa (k : Option KdP) (j : Nat) : Bool :=
  match k with
  | some (.a i _) => decide (i = j)
  | _ => false
theorem isKa_ok {k : Option KdP} {j : Nat} (h : isKa k j = true) : ∃ q, k = some (.a j q) := by
  unfold isKa at h
  split at h
  · simp at h; subst h; exact ⟨_, rfl⟩
  · cases h
def alOp (Θ : Tab) (ops : List Oper) (b : Al) : Bool :=
  match ops[b.i]? with
  | some o => o.guard.isNone && decide (o.dst = some b.t) && (match o.op with
    | .alloc e => match Θ e with
      | some i => match i.z with
        | some l => D.eqbs l b.l
        | none => false
      | none => false
    | _ => false)
  | none => false
theorem alOp_ok {Θ : Tab} {ops : List Oper} {b : Al} (h : alOp Θ ops b = true) : ∃ o e i, ops[b.i]? = some o ∧ o.op = .alloc e ∧ o.guard = none ∧ o.dst = some b.t ∧ Θ e = some i ∧ i.z = some b.l := by
  unfold alOp at h
  split at h
  · rename_i o ho
    simp only [Bool.and_eq_true, Option.isNone_iff_eq_none, decide_eq_true_eq] at h
    obtain ⟨⟨h1, h2⟩, h3⟩ := h
    split at h3
    · rename_i e he
      split at h3
      · rename_i i hi
        split at h3
        · rename_i l hl
          have := D.eqbs_ok _ _ h3
          subst this
          exact ⟨o, e, i, ho, he, h1, h2, hi, hl⟩
        · cases h3
      · cases h3
    · cases h3
  · cases h
def fitB (Θ : Tab) (ops : Array Oper) (kd : List KdP) (wr : List Nat) (al : List Al) : Bool :=
  decide (kd.length = ops.size) && nodupN wr && (wr.zipIdx.all fun x => isKw kd[x.1]? x.2) &&
  (kd.zipIdx.all fun x => match x.1 with
    | .q lo hi => decide (lo ≤ wr.length) && (wr.zipIdx.all fun y => (!decide (y.2 < lo) || ancB ops.toList x.2 y.1) && (!decide (hi ≤ y.2) || ancB ops.toList y.1 x.2))
    | .w j => decide (wr[j]? = some x.2) && wr.zipIdx.all fun y => !decide (y.2 < j) || ancB ops.toList x.2 y.1
    | .a j k => match (lsAt al j)[k]? with
      | some b => decide (b.i = x.2)
      | none => false) &&
  nodupN (al.map fun b => b.i) &&
  (al.all fun b => isKa kd[b.i]? b.j && alOp Θ ops.toList b && (match wr[b.j]? with
    | some x => ancB ops.toList x b.i && (ops.toList.zipIdx.all fun y => !(y.1.looksAt ops).contains b.t || decide (x = y.2) || ancB ops.toList y.2 x)
    | none => false))
theorem fitB_ok {Θ : Tab} {ops : Array Oper} {kd : List KdP} {wr : List Nat} {al : List Al} (h : fitB Θ ops kd wr al = true) : FitP Θ ops kd wr al := by
  unfold fitB at h
  simp only [Bool.and_eq_true, decide_eq_true_eq] at h
  obtain ⟨⟨⟨⟨⟨h1, h2⟩, h3⟩, h4⟩, h5⟩, h6⟩ := h
  have zi : ∀ {α : Type} {l : List α} {i : Nat} {x : α}, l[i]? = some x → (x, i) ∈ l.zipIdx := fun hx => by rw [List.mem_zipIdx_iff_getElem?]; exact hx
  have hnd := nodupN_ok h5
  have hpw : al.Pairwise fun b c => b.i ≠ c.i := List.pairwise_map.1 hnd
  have hal : ∀ b ∈ al, isKa kd[b.i]? b.j = true ∧ alOp Θ ops.toList b = true ∧ ∃ x, wr[b.j]? = some x ∧ ancB ops.toList x b.i = true ∧ ∀ i o, ops[i]? = some o → b.t ∈ o.looksAt ops → x = i ∨ ancB ops.toList i x = true := fun b hb => by
    have := List.all_eq_true.1 h6 b hb
    simp only [Bool.and_eq_true] at this
    obtain ⟨⟨k1, k2⟩, k3⟩ := this
    refine ⟨k1, k2, ?_⟩
    split at k3
    · rename_i x hx
      simp only [Bool.and_eq_true] at k3
      refine ⟨x, hx, k3.1, fun i o ho hlk => ?_⟩
      have := List.all_eq_true.1 k3.2 (o, i) (zi (by simpa using ho))
      simp only [Bool.or_eq_true, Bool.not_eq_true', List.contains_eq_mem, decide_eq_false_iff_not, decide_eq_true_eq] at this
      rcases this with (h | h) | h
      · exact absurd hlk h
      · exact .inl h
      · exact .inr h
    · cases k3
  refine ⟨h1, nodupN_ok h2, fun j i hj => isKw_ok (List.all_eq_true.1 h3 (i, j) (zi hj)), fun i lo hi hk => ?_, fun i j hk => ?_, fun i j k hk => ?_, fun b hb => ?_, fun b hb i o ho hlk => ?_, fun b hb => ?_, fun b hb c hc he => ?_, fun j => hpw.sublist List.filter_sublist⟩
  · have := List.all_eq_true.1 h4 (.q lo hi, i) (zi hk)
    simp only [Bool.and_eq_true, decide_eq_true_eq] at this
    refine ⟨this.1, fun j x hj => ?_⟩
    have := List.all_eq_true.1 this.2 (x, j) (zi hj)
    simp only [Bool.and_eq_true, Bool.or_eq_true, Bool.not_eq_true', decide_eq_false_iff_not] at this
    exact ⟨fun h => this.1.resolve_left (fun k => k h), fun h => this.2.resolve_left (fun k => k h)⟩
  · have := List.all_eq_true.1 h4 (.w j, i) (zi hk)
    simp only [Bool.and_eq_true, decide_eq_true_eq] at this
    refine ⟨this.1, fun j' x hj h => ?_⟩
    have := List.all_eq_true.1 this.2 (x, j') (zi hj)
    simp only [Bool.or_eq_true, Bool.not_eq_true', decide_eq_false_iff_not] at this
    exact this.resolve_left (fun k => k h)
  · have := List.all_eq_true.1 h4 (.a j k, i) (zi hk)
    simp only at this
    split at this
    · rename_i b hb
      have hm := List.mem_of_getElem? hb
      simp only [lsAt, List.mem_filter, decide_eq_true_eq] at hm
      exact ⟨b, hm.1, by simpa using this, hm.2, hb⟩
    · cases this
  · obtain ⟨k1, k2, x, k3, k4, _⟩ := hal b hb
    exact ⟨isKa_ok k1, x, k3, k4⟩
  · obtain ⟨_, _, x, k3, _, k5⟩ := hal b hb
    rcases k5 i o ho hlk with h | h
    · left; rw [k3, h]
    · exact .inr ⟨x, k3, h⟩
  · obtain ⟨_, k2, _⟩ := hal b hb
    obtain ⟨o, e, i, q1, q2⟩ := alOp_ok k2
    exact ⟨o, e, i, by simpa using q1, q2⟩
  · obtain ⟨p, hp⟩ := List.getElem?_of_mem hb
    obtain ⟨q, hq⟩ := List.getElem?_of_mem hc
    obtain ⟨p1, p2⟩ := List.getElem?_eq_some_iff.1 hp
    obtain ⟨q1, q2⟩ := List.getElem?_eq_some_iff.1 hq
    rcases Nat.lt_trichotomy p q with hlt | heq | hgt
    · exact absurd (by rw [p2, q2]; exact he) ((List.pairwise_iff_getElem.1 hpw) p q p1 q1 hlt)
    · subst heq; rw [← p2, ← q2]
    · exact absurd (by rw [p2, q2]; exact he.symm) ((List.pairwise_iff_getElem.1 hpw) q p q1 p1 hgt)

/-! ### the run -/
def matX : List Al → XS → XS
  | [], s => s
  | b :: r, s => matX r ⟨s.sl.set b.t (some (.loc s.nk 0)), s.o.set s.nk (some (.box (b.l.map .d))), s.nk + 1⟩
theorem matX_st : ∀ (r : List Al) (s : XS), (matX r s).st = ⟨matS r s.st.sl s.nk, (matO r (s.o.get, s.nk)).1, (matO r (s.o.get, s.nk)).2⟩
  | [], s => rfl
  | b :: r, s => by
    rw [matX, matX_st r]
    have e : (XS.st ⟨s.sl.set b.t (some (.loc s.nk 0)), s.o.set s.nk (some (.box (b.l.map .d))), s.nk + 1⟩).sl = upd s.st.sl b.t (.loc s.nk 0) := by
      have := put_st s (some b.t) (.loc s.nk 0) (s.o.set s.nk (some (.box (b.l.map .d)))) (s.nk + 1)
      simp only [putD] at this
      rw [this]; rfl
    rw [e]
    simp only [matS, matO, TM.get_set]
theorem matO_matX (r : List Al) (s : XS) : matO r (s.o.get, s.nk) = ((matX r s).o.get, (matX r s).nk) := by
  have := matX_st r s
  simp only [XS.st, St.mk.injEq] at this
  exact Prod.ext this.2.1.symm this.2.2.symm
theorem matS_hit {F : Nat → SV} : ∀ (r : List Al) (sl : Nat → SV) (nk : Nat), (∀ (pos : Nat) (b : Al), r[pos]? = some b → F b.t = .loc (nk + pos) 0) → ∀ u, matS r sl nk u = F u ∨ (matS r sl nk u = sl u ∧ ∀ b ∈ r, b.t ≠ u)
  | [], sl, nk, _, u => .inr ⟨rfl, by simp⟩
  | b :: r, sl, nk, h, u => by
    rw [matS]
    have h0 := h 0 b rfl
    rcases matS_hit (F := F) r (upd sl b.t (.loc nk 0)) (nk + 1) (fun pos c hc => by rw [h (pos + 1) c (by simpa using hc)]; congr 1; omega) u with h1 | ⟨h1, h2⟩
    · exact .inl h1
    · by_cases hu : u = b.t
      · subst hu
        left; rw [h1, upd_same, h0]; rfl
      · right
        refine ⟨by rw [h1, upd_ne _ _ hu], fun c hc => ?_⟩
        rcases List.mem_cons.1 hc with rfl | hc
        · exact Ne.symm hu
        · exact h2 c hc

section
variable (Θ : Tab) (call : Nat → List SV → TM AO → Nat → Option XR)
def xDrP (ops : Array Oper) (al : List Al) : List Oper → List KdP → XS → Option (List SV × List (TM AO × Nat) × TM SV)
  | [], [], s => some ([], [], s.sl)
  | op :: r, .w j :: ks, s => match matX (lsAt al j) s with
    | s1 => match xG Θ call ops op s1 with
      | none => none
      | some (v, o', nk') => match xDrP ops al r ks ⟨putD s1.sl op.dst v, o', nk'⟩ with
        | none => none
        | some (vs, phs, sl) => some (v :: vs, (o', nk') :: phs, sl)
  | op :: r, .q _ _ :: ks, s => match xG Θ call ops op s with
    | none => none
    | some (v, _, _) => match xDrP ops al r ks ⟨putD s.sl op.dst v, s.o, s.nk⟩ with
      | none => none
      | some (vs, phs, sl) => some (v :: vs, phs, sl)
  | op :: r, .a _ _ :: ks, s => match xDrP ops al r ks s with
    | none => none
    | some (vs, phs, sl) => some (.any :: vs, phs, sl)
  | _, _, _ => none
def patchV (L : List (TM AO × Nat)) : List KdP → List SV → List SV
  | .a j k :: ks, _ :: vs => (match L[j]? with
    | some (_, nk) => .loc (nk + k) 0
    | none => .any) :: patchV L ks vs
  | .q _ _ :: ks, v :: vs => v :: patchV L ks vs
  | .w _ :: ks, v :: vs => v :: patchV L ks vs
  | _, _ => []
def xChkP (ops : Array Oper) (al : List Al) (L : List (TM AO × Nat)) : List Oper → List KdP → List SV → TM SV → Nat → Bool
  | [], [], [], _, _ => true
  | op :: r, .w j :: ks, v :: vs, sl, p => decide (j = p) && (match L[j]? with
    | none => false
    | some (o, nk) => xChkP ops al L r ks vs (putD (matX (lsAt al j) ⟨sl, o, nk⟩).sl op.dst v) (p + 1))
  | op :: r, .q lo hi :: ks, v :: vs, sl, p => isQ op.op && (allX (hi - lo) (fun q => match L[q]? with
      | none => false
      | some (o, nk) => match xG Θ call ops op ⟨sl, o, nk⟩ with
        | none => false
        | some (v2, _, nk2) => SV.eqb v v2 && decide (nk2 = nk)) lo) && xChkP ops al L r ks vs (putD sl op.dst v) p
  | op :: r, .a _ _ :: ks, v :: vs, sl, p => xChkP ops al L r ks vs sl p
  | _, _, _, _, _ => false
end
theorem patch_len {L : List (TM AO × Nat)} : ∀ (ks : List KdP) (vs : List SV), ks.length = vs.length → (patchV L ks vs).length = ks.length
  | [], [], _ => rfl
  | k :: ks, [], h => by simp at h
  | [], v :: vs, h => by simp at h
  | k :: ks, v :: vs, h => by
    have := patch_len (L := L) ks vs (by simpa using h)
    cases k <;> simp [patchV, this]
theorem patch_a {L : List (TM AO × Nat)} : ∀ (ks : List KdP) (vs : List SV) (i j k : Nat) (v : SV), ks[i]? = some (.a j k) → (patchV L ks vs)[i]? = some v → v = match L[j]? with
    | some (_, nk) => .loc (nk + k) 0
    | none => .any
  | [], vs, i, j, k, v, h, _ => by simp at h
  | q :: ks, [], i, j, k, v, _, h => by cases q <;> simp [patchV] at h
  | q :: ks, x :: vs, 0, j, k, v, h1, h2 => by
    simp only [List.getElem?_cons_zero, Option.some.injEq] at h1
    subst h1
    simp only [patchV, List.getElem?_cons_zero, Option.some.injEq] at h2
    exact h2.symm
  | q :: ks, x :: vs, i + 1, j, k, v, h1, h2 => by
    refine patch_a ks vs i j k v (by simpa using h1) ?_
    cases q <;> simpa [patchV] using h2
theorem xDrP_len {Θ : Tab} {call : Nat → List SV → TM AO → Nat → Option XR} {ops : Array Oper} {al : List Al} : ∀ (l : List Oper) (ks : List KdP) (s : XS) (vs : List SV) (phs : List (TM AO × Nat)) (fsl : TM SV), xDrP Θ call ops al l ks s = some (vs, phs, fsl) → vs.length = l.length ∧ ks.length = vs.length
  | [], [], s, vs, phs, fsl, h => by simp only [xDrP, Option.some.injEq, Prod.mk.injEq] at h; obtain ⟨rfl, _, _⟩ := h; exact ⟨rfl, rfl⟩
  | [], k :: ks, s, vs, phs, fsl, h => by simp [xDrP] at h
  | op :: r, [], s, vs, phs, fsl, h => by simp [xDrP] at h
  | op :: r, .w j :: ks, s, vs, phs, fsl, h => by
    simp only [xDrP] at h
    split at h
    · cases h
    · split at h
      · cases h
      · rename_i hx
        simp only [Option.some.injEq, Prod.mk.injEq] at h
        obtain ⟨rfl, _, _⟩ := h
        have := xDrP_len r ks _ _ _ _ hx
        simp [this.1, this.2]
  | op :: r, .q lo hi :: ks, s, vs, phs, fsl, h => by
    simp only [xDrP] at h
    split at h
    · cases h
    · split at h
      · cases h
      · rename_i hx
        simp only [Option.some.injEq, Prod.mk.injEq] at h
        obtain ⟨rfl, _, _⟩ := h
        have := xDrP_len r ks _ _ _ _ hx
        simp [this.1, this.2]
  | op :: r, .a j k :: ks, s, vs, phs, fsl, h => by
    simp only [xDrP] at h
    split at h
    · cases h
    · rename_i hx
      simp only [Option.some.injEq, Prod.mk.injEq] at h
      obtain ⟨rfl, _, _⟩ := h
      have := xDrP_len r ks _ _ _ _ hx
      simp [this.1, this.2]
theorem slAt_snoc {sl : Nat → SV} {d : Option Nat} {v : SV} : ∀ (q : List (Option Nat × SV)) (sl : Nat → SV), slAt sl (q ++ [(d, v)]) = pt (slAt sl q) d v
  | [], sl => rfl
  | p :: q, sl => by
    rw [List.cons_append, slAt, slAt]
    exact slAt_snoc (sl := sl) q _
theorem drop_cons {α : Type} {l r : List α} {x : α} {i : Nat} (h : x :: r = l.drop i) : l[i]? = some x ∧ r = l.drop (i + 1) := by
  have h1 : (l.drop i)[0]? = some x := by rw [← h]; rfl
  refine ⟨by simpa using h1, ?_⟩
  rw [← List.drop_drop, ← h]; rfl

section
variable {Θ : Tab} {call : Nat → List SV → TM AO → Nat → Option XR}
theorem xDrP_ok {P : Program} (hc : CallOk P call) {ops : Array Oper} {kd : List KdP} {wr : List Nat} {al : List Al} (fit : FitP Θ ops kd wr al) (hflow : flowOk ops = true) {L : List (TM AO × Nat)} {vsF : List SV} {sl0 : Nat → SV} (hvl : vsF.length = ops.size) (hLl : wr.length < L.length)
    (hal : ∀ (i j k : Nat) (v : SV), kd[i]? = some (.a j k) → vsF[i]? = some v → v = match L[j]? with
      | some (_, nk) => .loc (nk + k) 0
      | none => .any) {fsl : TM SV} :
    ∀ (l : List Oper) (ks : List KdP) (s : XS) (vs : List SV) (phs pre : List (TM AO × Nat)) (i p : Nat), l = ops.toList.drop i → ks = kd.drop i → xDrP Θ call ops al l ks s = some (vs, phs, fsl) → pre.length = p → L = pre ++ (s.o, s.nk) :: phs →
      xChkP Θ call ops al L l ks vs s.sl p = true → vsF.drop i = patchV L ks vs →
      (∀ u, s.st.sl u = slAt sl0 (((ops.toList.map (·.dst)).zip vsF).take i) u ∨ ∃ b ∈ al, b.t = u ∧ b.i < i ∧ ∀ x, wr[b.j]? = some x → i ≤ x) →
      (∀ (m : Nat) (o : Oper) (v : SV) (k : KdP), i ≤ m → ops[m]? = some o → vsF[m]? = some v → kd[m]? = some k → eOpP P Θ ops (phx L) al o (slAt sl0 (((ops.toList.map (·.dst)).zip vsF).take m)) v k) ∧
      ∀ u, (fsl.get u).getD .any = slAt sl0 ((ops.toList.map (·.dst)).zip vsF) u := by
  have hwlt : ∀ j x, wr[j]? = some x → x < ops.size := fun j x hj => by
    have := (List.getElem?_eq_some_iff.1 (fit.wk j x hj)).1
    rw [fit.kl] at this
    exact this
  have hon : ∀ (i : Nat) (o : Oper), ops.toList[i]? = some o → ∀ k ∈ onsOf o, k < i := fun i o ho => (flow_spec hflow (by simpa using ho)).1
  have hancL : ∀ (n i k : Nat), k ∈ (ancs ops.toList n).getD i [] → k < i := by
    intro n
    induction n with
    | zero => intro i k hk; simp [ancs] at hk
    | succ n ih =>
      intro i k hk
      by_cases hi : i < n
      · rw [ancs, List.getD_eq_getElem?_getD, List.getElem?_append_left (by rw [ancs_length]; exact hi), ← List.getD_eq_getElem?_getD] at hk
        exact ih i k hk
      · by_cases he : i = n
        · subst he
          rw [ancs, List.getD_eq_getElem?_getD, List.getElem?_append_right (by rw [ancs_length]; exact Nat.le_refl _), ancs_length, Nat.sub_self] at hk
          cases ho : ops.toList[i]? with
          | none => rw [ho] at hk; simp at hk
          | some o =>
            rw [ho] at hk
            simp only [List.getElem?_cons_zero, Option.getD_some, List.mem_eraseDups, List.mem_append, List.mem_flatMap] at hk
            rcases hk with hk | ⟨j, hj, hk⟩
            · exact hon i o ho k hk
            · have := hon i o ho j hj
              have := ih j k hk
              omega
        · rw [List.getD_eq_getElem?_getD, List.getElem?_eq_none (by rw [ancs_length]; omega)] at hk
          simp at hk
  have hanc : ∀ i k, ancB ops.toList i k = true → k < i := fun i k h => hancL _ i k (by simpa [ancB] using h)
  have hprs : ∀ (i : Nat) (o : Oper) (v : SV), ops[i]? = some o → vsF[i]? = some v → ((ops.toList.map (·.dst)).zip vsF)[i]? = some (o.dst, v) := fun i o v ho hv => by
    rw [List.getElem?_zip_eq_some]
    refine ⟨?_, hv⟩
    rw [List.getElem?_map]
    have : ops.toList[i]? = some o := by simpa using ho
    rw [this]; rfl
  have hback : ∀ (j : Nat) (d : Option Nat) (v : SV), ((ops.toList.map (·.dst)).zip vsF)[j]? = some (d, v) → ∃ o, ops[j]? = some o ∧ o.dst = d ∧ vsF[j]? = some v := fun j d v hj => by
    rw [List.getElem?_zip_eq_some, List.getElem?_map] at hj
    obtain ⟨h1, h2⟩ := hj
    obtain ⟨o, ho, rfl⟩ := Option.map_eq_some_iff.1 h1
    exact ⟨o, by simpa using ho, rfl, h2⟩
  have huniq : Uniq ((ops.toList.map (·.dst)).zip vsF) := fun i j u v x hi hj => by
    obtain ⟨o, ho, hod, _⟩ := hback i _ v hi
    obtain ⟨p, hp, hpd, _⟩ := hback j _ x hj
    have := (flow_spec hflow ho).2 j p hp
    simp only [flowAt, hpd, Bool.and_eq_true, Bool.or_eq_true, beq_iff_eq] at this
    rcases this.1 with h1 | h1
    · exact h1
    · simp [hod] at h1
  have hsnoc : ∀ (i : Nat) (o : Oper) (v : SV), ops[i]? = some o → vsF[i]? = some v → slAt sl0 (((ops.toList.map (·.dst)).zip vsF).take (i + 1)) = pt (slAt sl0 (((ops.toList.map (·.dst)).zip vsF).take i)) o.dst v := fun i o v ho hv => by
    rw [List.take_add_one, hprs i o v ho hv]
    exact slAt_snoc (sl := sl0) _ _
  have hpt : ∀ (f g : Nat → SV) (d : Option Nat) (v : SV) (u : Nat), f u = g u → pt f d v u = pt g d v u := fun f g d v u h => by
    cases d with
    | none => exact h
    | some d => simp only [pt, upd, h]
  have hptd : ∀ (f g : Nat → SV) (d : Option Nat) (v : SV) (u : Nat), d = some u → pt f d v u = pt g d v u := fun f g d v u h => by
    subst h; simp [pt, upd_same]
  have hptn : ∀ (f : Nat → SV) (d : Option Nat) (v : SV) (u : Nat), d ≠ some u → pt f d v u = f u := fun f d v u h => by
    cases d with
    | none => rfl
    | some d => exact upd_ne _ _ fun e => h (by rw [e])
  -- what an operation looks at is told
  have hlook : ∀ (i : Nat) (o : Oper) (b : Al), ops[i]? = some o → b ∈ al → b.t ∈ o.looksAt ops → (∀ x, wr[b.j]? = some x → i ≤ x) → wr[b.j]? = some i := fun i o b ho hb hlk hx => by
    rcases fit.us b hb i o ho hlk with h | ⟨x, h1, h2⟩
    · exact h
    · have := hx x h1
      have := hanc _ _ h2
      omega
  intro l
  induction l with
  | nil =>
    intro ks s vs phs pre i p hl hks h hp hL hk hvs hinv
    cases ks with
    | cons k ks => simp [xDrP] at h
    | nil =>
      simp only [xDrP, Option.some.injEq, Prod.mk.injEq] at h
      obtain ⟨rfl, rfl, rfl⟩ := h
      have hi : ops.size ≤ i := by
        have := congrArg List.length hl
        simp at this; omega
      refine ⟨fun m o v k hm ho => ?_, fun u => ?_⟩
      · have := (Array.getElem?_eq_some_iff.1 ho).1
        omega
      · have e : ((ops.toList.map (·.dst)).zip vsF).take i = (ops.toList.map (·.dst)).zip vsF := List.take_of_length_le (by simp [hvl]; omega)
        rcases hinv u with h | ⟨b, hb, rfl, h1, h2⟩
        · rw [← e]; exact h
        · obtain ⟨_, x, hx, _⟩ := fit.aA b hb
          have := h2 x hx
          have := hwlt _ _ hx
          omega
  | cons op r ihl =>
    intro ks s vs phs pre i p hl hks h hp hL hk hvs hinv
    obtain ⟨hop, hr⟩ := drop_cons hl
    have hop : ops[i]? = some op := by simpa using hop
    have hilt : i < ops.size := (Array.getElem?_eq_some_iff.1 hop).1
    obtain ⟨v', hv'⟩ : ∃ v', vsF[i]? = some v' := ⟨_, List.getElem?_eq_getElem (by omega)⟩
    have hsn := hsnoc i op v' hop hv'
    cases ks with
    | nil => simp [xDrP] at h
    | cons k ks =>
      obtain ⟨hki, hks2⟩ := drop_cons hks
      have fin : ∀ (Z : Prop), (∀ (m : Nat) (o : Oper) (v : SV) (k : KdP), i + 1 ≤ m → ops[m]? = some o → vsF[m]? = some v → kd[m]? = some k → eOpP P Θ ops (phx L) al o (slAt sl0 (((ops.toList.map (·.dst)).zip vsF).take m)) v k) ∧ Z →
          eOpP P Θ ops (phx L) al op (slAt sl0 (((ops.toList.map (·.dst)).zip vsF).take i)) v' k →
          (∀ (m : Nat) (o : Oper) (v : SV) (k : KdP), i ≤ m → ops[m]? = some o → vsF[m]? = some v → kd[m]? = some k → eOpP P Θ ops (phx L) al o (slAt sl0 (((ops.toList.map (·.dst)).zip vsF).take m)) v k) ∧ Z := by
        rintro Z ⟨h1, h2⟩ h3
        refine ⟨fun m o v q hm ho hv hq => ?_, h2⟩
        by_cases hmi : m = i
        · subst hmi
          rw [hop] at ho; rw [hv'] at hv; rw [hki] at hq
          simp only [Option.some.injEq] at ho hv hq
          subst ho; subst hv; subst hq
          exact h3
        · exact h1 m o v q (by omega) ho hv hq
      cases k with
      | a j k =>
        simp only [xDrP] at h
        split at h
        · cases h
        · rename_i vs1 phs1 sl1 hx
          simp only [Option.some.injEq, Prod.mk.injEq] at h
          obtain ⟨rfl, rfl, rfl⟩ := h
          simp only [xChkP] at hk
          rw [patchV] at hvs
          obtain ⟨_, hvs2⟩ := drop_cons hvs.symm
          obtain ⟨b, hb, hbi, hbj, hbk⟩ := fit.a i j k hki
          obtain ⟨o2, e2, i2, q1, q2, q3, q4, q5⟩ := fit.op b hb
          rw [hbi, hop] at q1
          simp only [Option.some.injEq] at q1
          subst q1
          refine fin _ (ihl ks s vs1 phs1 pre (i + 1) p hr hks2 hx hp hL hk hvs2.symm fun u => ?_) ?_
          · by_cases hu : u = b.t
            · subst hu
              obtain ⟨_, x, hx, hxa⟩ := fit.aA b hb
              refine .inr ⟨b, hb, rfl, by omega, fun y hy => ?_⟩
              rw [hx] at hy
              simp only [Option.some.injEq] at hy
              subst hy
              have := hanc _ _ hxa
              omega
            · rw [hsn, hptn _ _ _ _ (by rw [q4]; simpa using Ne.symm hu)]
              rcases hinv u with h | ⟨c, hc, h1, h2, h3⟩
              · exact .inl h
              · refine .inr ⟨c, hc, h1, by omega, fun x hx => ?_⟩
                have := h3 x hx
                have hne : x ≠ i := fun e => by
                  have := fit.wk _ _ hx
                  rw [e, hki] at this; cases this
                omega
          · show v' = _
            rw [hal i j k v' hki hv']
            simp only [phx]
            obtain ⟨_, x, hx2, _⟩ := fit.aA b hb
            have : j < L.length := by
              have := (List.getElem?_eq_some_iff.1 hx2).1
              omega
            rw [List.getElem?_eq_getElem this]
      | q lo hi =>
        simp only [xDrP] at h
        split at h
        · cases h
        · rename_i v o' nk' hx
          split at h
          · cases h
          · rename_i vs1 phs1 sl1 hx1
            simp only [Option.some.injEq, Prod.mk.injEq] at h
            obtain ⟨rfl, rfl, rfl⟩ := h
            simp only [xChkP, Bool.and_eq_true] at hk
            obtain ⟨⟨hq, hall⟩, hk⟩ := hk
            rw [patchV] at hvs
            obtain ⟨hv2, hvs2⟩ := drop_cons hvs.symm
            rw [hv'] at hv2
            simp only [Option.some.injEq] at hv2
            subst hv2
            have hnw : ∀ j, wr[j]? ≠ some i := fun j hj => by
              have := fit.wk _ _ hj
              rw [hki] at this; cases this
            refine fin _ (ihl ks ⟨putD s.sl op.dst v', s.o, s.nk⟩ vs1 phs1 pre (i + 1) p hr hks2 hx1 hp hL hk hvs2.symm fun u => ?_) ?_
            · rw [put_st]
              show pt s.st.sl op.dst v' u = _ ∨ _
              rw [hsn]
              by_cases hd : op.dst = some u
              · exact .inl (hptd _ _ _ _ _ hd)
              · rcases hinv u with h | ⟨c, hc, h1, h2, h3⟩
                · exact .inl (hpt _ _ _ _ _ h)
                · refine .inr ⟨c, hc, h1, by omega, fun x hx => ?_⟩
                  have := h3 x hx
                  have hne : x ≠ i := fun e => hnw _ (e ▸ hx)
                  omega
            · simp only [eOpP]
              refine allX_ok (fun q hqq => ?_) _ _ hall
              split at hqq
              · cases hqq
              · rename_i o2 nk2 hLq
                split at hqq
                · cases hqq
                · rename_i v2 o3 nk3 hg
                  simp only [Bool.and_eq_true, decide_eq_true_eq] at hqq
                  have hv := SV.eqb_ok hqq.1
                  subst hv
                  have := xG_q (P := P) hc hq hg hqq.2
                  simp only [phx, hLq]
                  refine gOp_congr (s := ⟨s.st.sl, o2.get, nk2⟩) (fun u hu => ?_) rfl rfl this
                  rcases hinv u with h | ⟨c, hc, h1, h2, h3⟩
                  · exact h
                  · subst h1
                    exact absurd (hlook i op c hop hc hu h3) (hnw _)
      | w j =>
        simp only [xDrP] at h
        obtain ⟨hwj, hky⟩ := fit.w i j hki
        split at h
        · cases h
        · rename_i v o' nk' hx
          split at h
          · cases h
          · rename_i vs1 phs1 sl1 hx1
            simp only [Option.some.injEq, Prod.mk.injEq] at h
            obtain ⟨rfl, rfl, rfl⟩ := h
            simp only [xChkP, Bool.and_eq_true, decide_eq_true_eq] at hk
            obtain ⟨rfl, hk⟩ := hk
            have hLp : L[j]? = some (s.o, s.nk) := by rw [hL, List.getElem?_append_right (by omega), hp]; simp
            have hLp1 : L[j + 1]? = some (o', nk') := by rw [hL, List.getElem?_append_right (by omega), hp]; simp
            rw [hLp] at hk
            simp only at hk
            rw [patchV] at hvs
            obtain ⟨hv2, hvs2⟩ := drop_cons hvs.symm
            rw [hv'] at hv2
            simp only [Option.some.injEq] at hv2
            subst hv2
            have hF : ∀ (pos : Nat) (b : Al), (lsAt al j)[pos]? = some b → slAt sl0 (((ops.toList.map (·.dst)).zip vsF).take i) b.t = .loc (s.nk + pos) 0 := fun pos b hb => by
              have hm := List.mem_of_getElem? hb
              simp only [lsAt, List.mem_filter, decide_eq_true_eq] at hm
              obtain ⟨hbm, hbj⟩ := hm
              obtain ⟨o2, e2, i2, q1, _, _, q4, _⟩ := fit.op b hbm
              obtain ⟨⟨k, hk⟩, x, hx, hxa⟩ := fit.aA b hbm
              obtain ⟨c, hc, hci, hcj, hck⟩ := fit.a _ _ _ hk
              obtain rfl := fit.inj c hc b hbm hci
              have hkp : k = pos := by
                rw [hbj] at hck
                obtain ⟨q1, q2⟩ := List.getElem?_eq_some_iff.1 hck
                obtain ⟨q3, q4⟩ := List.getElem?_eq_some_iff.1 hb
                rcases Nat.lt_trichotomy k pos with hlt | heq | hgt
                · exact absurd (by rw [q2, q4]) ((List.pairwise_iff_getElem.1 (fit.ndL j)) k pos q1 q3 hlt)
                · exact heq
                · exact absurd (by rw [q2, q4]) ((List.pairwise_iff_getElem.1 (fit.ndL j)) pos k q3 q1 hgt)
              rw [hbj, hwj] at hx
              simp only [Option.some.injEq] at hx
              subst hx
              have hlt := hanc _ _ hxa
              have hvb : vsF[c.i]? = some (vsF[c.i]'(by omega)) := List.getElem?_eq_getElem _
              have hval := hal c.i c.j k _ hk hvb
              rw [hbj, hLp] at hval
              simp only at hval
              have hpr := hprs c.i o2 _ q1 hvb
              rw [hval, q4, hkp] at hpr
              refine slAt_hit _ _ c.i (by rw [List.getElem?_take, if_pos hlt]; exact hpr) fun m y hm => ?_
              rw [List.getElem?_take] at hm
              split at hm
              · exact huniq m c.i c.t y _ hm hpr
              · cases hm
            have hinv1 : ∀ u, (matX (lsAt al j) s).st.sl u = slAt sl0 (((ops.toList.map (·.dst)).zip vsF).take i) u ∨ ∃ b ∈ al, b.t = u ∧ b.j ≠ j ∧ b.i < i ∧ ∀ x, wr[b.j]? = some x → i ≤ x := fun u => by
              rw [matX_st]
              rcases matS_hit (F := slAt sl0 (((ops.toList.map (·.dst)).zip vsF).take i)) (lsAt al j) s.st.sl s.nk hF u with h | ⟨h1, h2⟩
              · exact .inl h
              · rcases hinv u with h | ⟨c, hc, q1, q2, q3⟩
                · exact .inl (h1.trans h)
                · refine .inr ⟨c, hc, q1, fun e => ?_, q2, q3⟩
                  exact h2 c (by simp [lsAt, hc, e]) q1
            refine fin _ (ihl ks ⟨putD (matX (lsAt al j) s).sl op.dst v', o', nk'⟩ vs1 phs1 (pre ++ [(s.o, s.nk)]) (i + 1) (j + 1) hr hks2 hx1 (by simp [hp]) (by rw [hL]; simp) hk hvs2.symm fun u => ?_) ?_
            · rw [put_st]
              show pt (matX (lsAt al j) s).st.sl op.dst v' u = _ ∨ _
              rw [hsn]
              by_cases hd : op.dst = some u
              · exact .inl (hptd _ _ _ _ _ hd)
              · rcases hinv1 u with h | ⟨c, hc, h1, hne, h2, h3⟩
                · exact .inl (hpt _ _ _ _ _ h)
                · refine .inr ⟨c, hc, h1, by omega, fun x hx => ?_⟩
                  have := h3 x hx
                  have hne : x ≠ i := fun e => by
                    have h4 := fit.wk _ _ hx
                    rw [e, hki] at h4
                    simp only [Option.some.injEq, KdP.w.injEq] at h4
                    exact hne h4.symm
                  omega
            · have hm1 : matO (lsAt al j) (s.o.get, s.nk) = ((matX (lsAt al j) s).o.get, (matX (lsAt al j) s).nk) := matO_matX _ _
              simp only [eOpP, phx, hLp, hLp1, hm1]
              have hsl : ∀ u ∈ op.looksAt ops, (matX (lsAt al j) s).st.sl u = slAt sl0 (((ops.toList.map (·.dst)).zip vsF).take i) u := fun u hu => by
                rcases hinv1 u with h | ⟨c, hc, h1, hne, h2, h3⟩
                · exact h
                · subst h1
                  have := hlook i op c hop hc hu h3
                  have h4 := fit.wk _ _ this
                  rw [hki] at h4
                  simp only [Option.some.injEq, KdP.w.injEq] at h4
                  exact absurd h4.symm hne
              have hgd : ∀ c, gdc ops (matX (lsAt al j) s).st op.guard c → gdc ops ⟨slAt sl0 (((ops.toList.map (·.dst)).zip vsF).take i), (matX (lsAt al j) s).o.get, (matX (lsAt al j) s).nk⟩ op.guard c := fun c hgc => by
                unfold gdc at hgc ⊢
                split at hgc
                · exact hgc
                · rename_i q want hg
                  have hgs : gsl ops (matX (lsAt al j) s).st q = gsl ops ⟨slAt sl0 (((ops.toList.map (·.dst)).zip vsF).take i), (matX (lsAt al j) s).o.get, (matX (lsAt al j) s).nk⟩ q := by
                    unfold gsl
                    split
                    · rename_i d hd
                      refine hsl d ?_
                      simp only [Oper.looksAt, List.mem_append, List.mem_filterMap]
                      right
                      rw [hg]
                      simp [hd]
                    · rfl
                  rw [← hgs]; exact hgc
              unfold xG at hx
              split at hx
              · cases hx
              · rename_i hg
                simp only [Option.some.injEq, Prod.mk.injEq] at hx
                obtain ⟨rfl, rfl, rfl⟩ := hx
                exact ⟨false, .any, hgd _ (xGuard_ok hg), fun e => (by cases e), fun _ => rfl, (cnd_F _).symm⟩
              · rename_i hg
                refine ⟨true, v', hgd _ (xGuard_ok hg), fun _ => ?_, fun e => (by cases e), (cnd_T v').symm⟩
                refine vOp_congr (s := (matX (lsAt al j) s).st) (fun x hx' => ?_) rfl rfl (xOp_ok hc hx (K := fun v'' o'' nk'' => v'' = v' ∧ o'' = o'.get ∧ nk'' = nk') ⟨rfl, rfl, rfl⟩)
                cases x with
                | tmp t =>
                  refine hsl t ?_
                  simp only [Oper.looksAt, List.mem_append, List.mem_filterMap]
                  exact .inl ⟨.tmp t, by simpa using hx', rfl⟩
                | _ => rfl
end

/-! ### the kinds, found -/
def ordB (an : List (List Nat)) (i k : Nat) : Bool := (an.getD i []).contains k || (an.getD k []).contains i
def isPA (op : Oper) : Bool :=
  match op.op with
  | .alloc _ => op.guard.isNone && op.dst.isSome
  | _ => false
def pendL (ops : List Oper) (an : List (List Nat)) (ws : List Nat) : List Nat := ws.filter fun i => (match ops[i]? with
  | some o => isPA o
  | none => false) && !(ws.all fun k => Nat.beq i k || ordB an i k)
def mkAl (Θ : Tab) (ops : List Oper) (an : List (List Nat)) (wr : List Nat) : List Nat → List Al
  | [] => []
  | i :: r => match ops[i]? with
    | some o => match o.op, o.dst with
      | .alloc e, some t => match Θ e with
        | some ti => match ti.z with
          | some l => ⟨i, t, takeN (fun x => !(an.getD x []).contains i) wr, l⟩ :: mkAl Θ ops an wr r
          | none => []
        | none => []
      | _, _ => []
    | none => []
def plA (i : Nat) : List Al → List Al → Option (Nat × Nat)
  | _, [] => none
  | seen, b :: r => bif Nat.beq b.i i then some (b.j, (seen.filter fun c => Nat.beq c.j b.j).length) else plA i (seen ++ [b]) r
def kdP (an : List (List Nat)) (wr : List Nat) (al : List Al) : List Oper → Nat → Nat → List KdP
  | [], _, _ => []
  | op :: r, i, j => match plA i [] al with
    | some (a, k) => .a a k :: kdP an wr al r (i + 1) j
    | none => bif isW op.op then .w j :: kdP an wr al r (i + 1) (j + 1)
      else .q (takeN (fun w => (an.getD i []).contains w) wr) (takeN (fun w => !(an.getD w []).contains i) wr) :: kdP an wr al r (i + 1) j
def clrA : List Al → TM SV → TM SV
  | [], sl => sl
  | b :: r, sl => clrA r (sl.set b.t none)
theorem clrA_get : ∀ (al : List Al) (sl : TM SV) (u : Nat), (clrA al sl).get u = sl.get u ∨ (clrA al sl).get u = none
  | [], sl, u => .inl rfl
  | b :: r, sl, u => by
    rw [clrA]
    rcases clrA_get r (sl.set b.t none) u with h | h
    · rw [h, TM.get_set]
      unfold upd
      split
      · exact .inr rfl
      · exact .inl rfl
    · exact .inr h
theorem clrA_al : ∀ (al : List Al) (sl : TM SV), ∀ b ∈ al, (clrA al sl).get b.t = none
  | [], sl, b, h => by simp at h
  | b :: r, sl, c, h => by
    rw [clrA]
    rcases List.mem_cons.1 h with rfl | h
    · rcases clrA_get r (sl.set c.t none) c.t with h | h
      · rw [h, TM.get_set, upd_same]
      · exact h
    · exact clrA_al r _ c h
section
variable (Θ : Tab) (call : Nat → List SV → TM AO → Nat → Option XR)
def xDrawP1 (ops : Array Oper) (kd : List KdP) (wr : List Nat) (al : List Al) (s : XS) : Option XS :=
  bif flowOk ops && fitB Θ ops kd wr al then match clrA al s.sl with
    | sl0 => match xDrP Θ call ops al ops.toList kd ⟨sl0, s.o, s.nk⟩ with
      | none => none
      | some (vs, phs, sl) => match (s.o, s.nk) :: phs with
        | L => bif xChkP Θ call ops al L ops.toList kd vs sl0 0 then match L[wr.length]? with
            | none => none
            | some (o, nk) => bif Nat.beq wr.length phs.length then some ⟨sl, o, nk⟩ else none
          else none
  else none
def xDrawP (ops : Array Oper) (s : XS) : Option XS :=
  match ops.toList with
  | l => match ancs l l.length with
    | an => match wrGo l 0 with
      | ws => match pendL l an ws with
        | pn => match ws.filter fun i => !pn.contains i with
          | wr => match mkAl Θ l an wr pn with
            | al => xDrawP1 Θ call ops (kdP an wr al l 0 0) wr al s
theorem xDrawP1_ok {P : Program} {n k0 : Nat} {Q : Exit → St → Prop} (hΘ : TabOk P Θ) (hm : P.follows .mixedOrders = true) (hc : CallOk P call) {id : Nat} {ops : Array Oper} {kd : List KdP} {wr : List Nat} {al : List Al} {s s' : XS} (hd : (ops.toList.all fun o => dstOk n o.dst) = true) (h : xDrawP1 Θ call ops kd wr al s = some s') (hQ : Q .normal s'.st) :
    WP P n k0 (.region id ops true) s.st Q := by
  unfold xDrawP1 at h
  cases hb : flowOk ops && fitB Θ ops kd wr al with
  | false => rw [hb] at h; cases h
  | true =>
    rw [hb] at h
    simp only [cond_true] at h
    simp only [Bool.and_eq_true] at hb
    have fit := fitB_ok hb.2
    split at h
    · cases h
    · rename_i vs phs sl hx
      cases hk : xChkP Θ call ops al ((s.o, s.nk) :: phs) ops.toList kd vs (clrA al s.sl) 0 with
      | false => rw [hk] at h; cases h
      | true =>
        rw [hk] at h
        simp only [cond_true] at h
        split at h
        · cases h
        · rename_i o nk hL
          cases he : Nat.beq wr.length phs.length with
          | false => rw [he] at h; cases h
          | true =>
            rw [he] at h
            simp only [cond_true, Option.some.injEq] at h
            subst h
            have hlen := Nat.eq_of_beq_eq_true he
            obtain ⟨l1, l2⟩ := xDrP_len _ _ _ _ _ _ hx
            have hpl : (patchV ((s.o, s.nk) :: phs) kd vs).length = ops.size := by rw [patch_len _ _ l2, fit.kl]
            obtain ⟨k1, k2⟩ := xDrP_ok (P := P) (sl0 := fun u => ((clrA al s.sl).get u).getD .any) hc fit hb.1 hpl (by simp; omega) (fun i j k v h1 h2 => patch_a _ _ _ _ _ _ h1 h2) ops.toList kd ⟨clrA al s.sl, s.o, s.nk⟩ vs phs [] 0 0 rfl rfl hx rfl rfl hk rfl (fun u => .inl rfl)
            have hw : WP P n k0 (.region id ops true) ⟨fun u => ((clrA al s.sl).get u).getD .any, (phx ((s.o, s.nk) :: phs) 0).1, (phx ((s.o, s.nk) :: phs) 0).2⟩ Q := by
              refine WP.drawnP (P := P) (Θ := Θ) (n := n) (k0 := k0) (Q := Q) hΘ hm (id := id) (ops := ops) fit (phx ((s.o, s.nk) :: phs)) (patchV ((s.o, s.nk) :: phs) kd vs) hd hb.1 hpl (fun b hb => by simp only [clrA_al al s.sl b hb]; rfl) (fun i o v k ho hv hk => k1 i o v k (Nat.zero_le _) ho hv hk) ?_
              have e : slAt (fun u => ((clrA al s.sl).get u).getD .any) ((ops.toList.map (·.dst)).zip (patchV ((s.o, s.nk) :: phs) kd vs)) = fun u => (sl.get u).getD .any := funext fun u => (k2 u).symm
              rw [e]
              simp only [phx, hL]
              exact hQ
            refine WP.of (fun E a w _ hr => ?_) hw
            obtain ⟨S, γ, hr⟩ := hr
            refine ⟨S, γ, hr.sto, hr.tr, fun u => ?_, fun u => ?_, hr.df, hr.nn⟩
            · show SR w S γ _ (((clrA al s.sl).get u).getD .any) _
              rcases clrA_get al s.sl u with h | h
              · rw [h]; exact hr.sl u
              · rw [h]; exact .any _
            · show (((clrA al s.sl).get u).getD .any).lt _
              rcases clrA_get al s.sl u with h | h
              · rw [h]; exact hr.slt u
              · rw [h]; trivial
theorem xDrawP_ok {P : Program} {n k0 : Nat} {Q : Exit → St → Prop} (hΘ : TabOk P Θ) (hm : P.follows .mixedOrders = true) (hc : CallOk P call) {id : Nat} {ops : Array Oper} {s s' : XS} (hd : (ops.toList.all fun o => dstOk n o.dst) = true) (h : xDrawP Θ call ops s = some s') (hQ : Q .normal s'.st) :
    WP P n k0 (.region id ops true) s.st Q := xDrawP1_ok Θ call hΘ hm hc hd h hQ
end
end Go.Proofs.YtpkcbdhjnnnkbaaGreat.Abs

/- Steps of drawn regions that write and hold allocs that no edge orders. -/
set_option linter.unusedVariables false
set_option linter.unusedSimpArgs false
namespace Go.Proofs.YtpkcbdhjnnnkbaaGreat.Abs
open Go

section
variable {P : Program} {Θ : Tab} {n k0 : Nat} {Q : Exit → St → Prop}
end
section
variable {P : Program} {Θ : Tab} {ops : Array Oper} {K : St → Prop} {r : List Oper} {sl : Nat → SV} {d ty j lo m nk nk' i e : Nat} {o o' : Nat → Option AO} {op : Op} {pos : String} {af : Array Edge} {want c : Bool} {v : SV} {L : List Ob} {ks : List KdP} {al : List Al}
end
end Go.Proofs.YtpkcbdhjnnnkbaaGreat.Abs

/- A live row is lent to a function that only looks. -/
set_option linter.unusedVariables false
set_option linter.unusedSimpArgs false
namespace Go.Proofs.YtpkcbdhjnnnkbaaGreat.Abs
open Go
section
variable {P : Program} {Θ : Tab} {K : SV → (Nat → Option AO) → Nat → Prop} {sl : Nat → SV} {o : Nat → Option AO} {nk : Nat} {x y : Operand} {t e : Nat}
end
end Go.Proofs.YtpkcbdhjnnnkbaaGreat.Abs

/- Methods: functions that are handed a variable and may write it. -/
set_option linter.unusedVariables false
set_option linter.unusedSimpArgs false
namespace Go.Proofs.YtpkcbdhjnnnkbaaGreat.Abs
open Go
/-- Asked with variable k that holds cs it answers r, and k holds cs'. -/
def MSpec (P : Program) (f : FuncId) (args : Nat → List SV) (cs cs' : List SV) (r : SV) : Prop :=
  ∀ (o : Nat → Option AO) (nk k : Nat), o k = some (.box cs) → Spec P f (args k) o nk fun r' o' nk' => r' = r ∧ o' = upd o k (some (.box cs')) ∧ nk' = nk
theorem Spec.pureM {P : Program} {f : FuncId} {args : List SV} {o : Nat → Option AO} {nk k : Nat} {r : SV} {cs cs' : List SV} (hM : o k = some (.box cs)) (hcs : ∀ m, SV.lts m cs') (hr : ∀ m, r.lt m) (hid : r.ren id = r)
    (h : k < nk → Spec P f args o nk fun r' o' nk' => r' = r ∧ nk ≤ nk' ∧ o' k = some (.box cs') ∧ ∀ t, t < nk ∧ t ≠ k → o' t = o t) : Spec P f args o nk fun r' o' nk' => r' = r ∧ o' = upd o k (some (.box cs')) ∧ nk' = nk := by
  intro w S γ vs h1 h2 h3 h4
  have hkn : k < nk := h1.o_lt k _ hM
  refine (h hkn w S γ vs h1 h2 h3 h4).mono ?_
  rintro v w' ⟨r', o', nk', S', γ', ⟨rfl, hnk, hok, ho⟩, hs, ht, hsr, hl⟩
  have hk : Wko nk id o' (upd o k (some (.box cs'))) nk := by
    refine ⟨Nat.le_refl _, fun t x hx => ?_, fun t t' x x' _ _ e => e, fun _ _ _ _ => rfl⟩
    by_cases htk : t = k
    · subst htk
      rw [upd_same] at hx
      simp only [Option.some.injEq] at hx
      subst hx
      exact ⟨hkn, by rw [AO.ren_id]; exact hok, hcs nk⟩
    · rw [upd_ne _ _ htk] at hx
      have hlt := h1.o_lt t x hx
      refine ⟨hlt, by rw [AO.ren_id]; show o' t = some x; rw [ho t ⟨hlt, htk⟩, hx], ?_⟩
      cases x with
      | box cs => exact (h1.box t cs hx).2
      | row e z xs => trivial
      | raw ob => trivial
  exact ⟨r', _, nk, S', γ' ∘ id, ⟨rfl, rfl, rfl⟩, hk.sto hs, hk.tr ht, hsr.of_ren (fun t x hx => (hk.o t x hx).2.1) r' hid, hr _⟩
theorem MSpec.of {P : Program} {f : FuncId} {n : Nat} {ts : List Nat} {c : Code} {args : Nat → List SV} {cs cs' : List SV} {r : SV} (hf : FnOk P f n ts c) (hn : ∀ k, (args k).length ≤ n) (hcs : ∀ m, SV.lts m cs') (hr : ∀ m, r.lt m) (hid : r.ren id = r)
    (h : ∀ o nk k, k < nk → o k = some (.box cs) → WP P n nk c ⟨slots (args k), o, nk⟩ (retQ ts fun r' o' nk' => r' = r ∧ nk ≤ nk' ∧ o' k = some (.box cs') ∧ ∀ t, t < nk ∧ t ≠ k → o' t = o t)) : MSpec P f args cs cs' r :=
  fun o nk k hM => Spec.pureM hM hcs hr hid fun hk => Spec.of_body hf (hn k) (h o nk k hk hM)
theorem retM_ok {ts : List Nat} {sl : Nat → SV} {o o0 : Nat → Option AO} {nk nk0 k : Nat} {x y : SV} {cs : List SV} (h1 : resOf ts ⟨sl, o, nk⟩ = y) (h2 : y = x) (h3 : nk0 ≤ nk) (hk : o k = some (.box cs)) (h4 : ∀ t, t < nk0 ∧ t ≠ k → o t = o0 t) :
    retQ ts (fun r o' nk' => r = x ∧ nk0 ≤ nk' ∧ o' k = some (.box cs) ∧ ∀ t, t < nk0 ∧ t ≠ k → o' t = o0 t) .ret ⟨sl, o, nk⟩ := ⟨by rw [h1, h2], h3, hk, h4⟩
theorem endM_ok {ts : List Nat} {sl : Nat → SV} {o o0 : Nat → Option AO} {nk nk0 k : Nat} {x y : SV} {cs : List SV} (h1 : resOf ts ⟨sl, o, nk⟩ = y) (h2 : y = x) (h3 : nk0 ≤ nk) (hk : o k = some (.box cs)) (h4 : ∀ t, t < nk0 ∧ t ≠ k → o t = o0 t) :
    retQ ts (fun r o' nk' => r = x ∧ nk0 ≤ nk' ∧ o' k = some (.box cs) ∧ ∀ t, t < nk0 ∧ t ≠ k → o' t = o0 t) .normal ⟨sl, o, nk⟩ := ⟨by rw [h1, h2], h3, hk, h4⟩
section
variable {P : Program} {Θ : Tab} {K : SV → (Nat → Option AO) → Nat → Prop} {sl : Nat → SV} {o : Nat → Option AO} {nk : Nat} {x y : Operand} {t : Nat}
theorem g_mcall {g : FuncId} {asx : Array Operand} {ts : Array Nat} {args : Nat → List SV} {r : SV} {cs cs' : List SV} {k : Nat} (hs : MSpec P g args cs cs' r) (ho : o k = some (.box cs)) (ha : asx.toList.map (ev sl) = args k) (h : ∀ o1, o1 k = some (.box cs') → (∀ t, t ≠ k → o1 t = o t) → K r o1 nk) : vOp P Θ (.call { callee := .value (.func g), args := asx, argTypes := ts }) ⟨sl, o, nk⟩ K :=
  o_call (hs o nk k ho) ha (by rintro r' o' nk' ⟨rfl, rfl, rfl⟩; exact h _ (upd_same _ _ _) fun u hu => upd_ne _ _ hu)
theorem o_pnil {i : TI} {e q g u : Nat} {cs : List SV} (hx : ev sl x = .loc q g) (hy : ev sl y = .d .nilp) (hi : Θ t = some i) (hk : i.k = .ptr e) (ho : o q = some (.box cs)) (h : K (.d (.bool false)) o nk) : vOp P Θ (.binOp .eql t x y u) ⟨sl, o, nk⟩ K := by
  refine Or.inl ?_
  show bnOp Θ o .eql t (ev sl x) (ev sl y) (fun v => K v o nk)
  rw [hx, hy]
  exact xbn_ok Θ (r := .bool false) (by simp [xbn, hi, hk, ho]) h
theorem o_pnnil {i : TI} {e q g u : Nat} {cs : List SV} (hx : ev sl x = .loc q g) (hy : ev sl y = .d .nilp) (hi : Θ t = some i) (hk : i.k = .ptr e) (ho : o q = some (.box cs)) (h : K (.d (.bool true)) o nk) : vOp P Θ (.binOp .neq t x y u) ⟨sl, o, nk⟩ K := by
  refine Or.inl ?_
  show bnOp Θ o .neq t (ev sl x) (ev sl y) (fun v => K v o nk)
  rw [hx, hy]
  exact xbn_ok Θ (r := .bool true) (by simp [xbn, hi, hk, ho]) h
end
/-- Less may be said of an answer. -/
theorem Spec.weak {P : Program} {f : FuncId} {args : List SV} {o : Nat → Option AO} {nk : Nat} {x : D} {Q : (Nat → Option AO) → Nat → Prop} (h : Spec P f args o nk fun r o' nk' => (∃ x', r = .d x' ∧ D.le x' x) ∧ Q o' nk') : Spec P f args o nk fun r o' nk' => r = .d x ∧ Q o' nk' := by
  intro w S γ vs h1 h2 h3 h4
  refine (h w S γ vs h1 h2 h3 h4).mono ?_
  rintro v w' ⟨r', o', nk', S', γ', ⟨⟨x', rfl, hle⟩, hq⟩, hs, ht, hsr, hl⟩
  refine ⟨.d x, o', nk', S', γ', ⟨rfl, hq⟩, hs, ht, ?_, trivial⟩
  cases hsr with
  | d _ _ hr => exact .d _ _ (hr.le hle)
theorem MSpec.ofC {P : Program} {Θ : Tab} (hΘ : TabOk P Θ) {f : FuncId} {n : Nat} {rs : List ResultVar} {c : Code} {args : Nat → List SV} {cs cs' : List SV} {x : D} (hf : FnOkC P f n rs c) (hn : ∀ k, (args k).length ≤ n) (hcs : ∀ m, SV.lts m cs')
    (h : ∀ o nk k, k < nk → o k = some (.box cs) → WP P n nk c ⟨slots (args k), o, nk⟩ (retC Θ rs fun r' o' nk' => (∃ x', r' = .d x' ∧ D.le x' x) ∧ nk ≤ nk' ∧ o' k = some (.box cs') ∧ ∀ t, t < nk ∧ t ≠ k → o' t = o t)) : MSpec P f args cs cs' (.d x) :=
  fun o nk k hM => Spec.pureM hM hcs (fun _ => trivial) rfl fun hk => Spec.weak (Q := fun o' nk' => nk ≤ nk' ∧ o' k = some (.box cs') ∧ ∀ t, t < nk ∧ t ≠ k → o' t = o t) (Spec.of_bodyC hΘ hf (hn k) (h o nk k hk hM))
theorem retCM_ok {Θ : Tab} {a t : Nat} {sl : Nat → SV} {o o0 : Nat → Option AO} {nk nk0 k : Nat} {x x' : D} {cs : List SV} (h1 : ResIs Θ ⟨sl, o, nk⟩ (.cell a t) (.d x')) (hx : D.le x' x) (h3 : nk0 ≤ nk) (hk : o k = some (.box cs)) (h4 : ∀ t, t < nk0 ∧ t ≠ k → o t = o0 t) :
    retC Θ [.cell a t] (fun r o' nk' => (∃ x', r = .d x' ∧ D.le x' x) ∧ nk0 ≤ nk' ∧ o' k = some (.box cs) ∧ ∀ t, t < nk0 ∧ t ≠ k → o' t = o0 t) .ret ⟨sl, o, nk⟩ :=
  ⟨[.d x'], ⟨h1, trivial⟩, ⟨x', rfl, hx⟩, h3, hk, h4⟩
theorem w_mcall {P : Program} {Θ : Tab} {K : SV → (Nat → Option AO) → Nat → Prop} {sl : Nat → SV} {o : Nat → Option AO} {nk : Nat} {g : FuncId} {asx : Array Operand} {ts : Array Nat} {args : Nat → List SV} {r : SV} {cs cs' : List SV} {k : Nat} (hs : MSpec P g args cs cs' r) (ho : o k = some (.box cs)) (ha : asx.toList.map (ev sl) = args k) (h : K r (upd o k (some (.box cs'))) nk) : vOp P Θ (.call { callee := .value (.func g), args := asx, argTypes := ts }) ⟨sl, o, nk⟩ K :=
  o_call (hs o nk k ho) ha (by rintro r' o' nk' ⟨rfl, rfl, rfl⟩; exact h)
theorem WP.frzC4 {P : Program} {n k0 : Nat} {Q : Exit → St → Prop} {c : Code} {sl : Nat → SV} {o : Nat → Option AO} {nk : Nat} (l : List (Nat × SV)) (k : Nat) {b e z : Nat} {pre post : List SV} {x : SV} {q : Option Nat} {xs : List D} (hb : o b = some (.box (pre ++ x :: post))) (hx : dstOf o e z x = some (q, xs)) (hkb : k ≤ b)
    (hp : ∀ t, q = some t → pre.map (SV.frz t (.sl z xs)) = pre ∧ post.map (SV.frz t (.sl z xs)) = post) (hl : ∀ t, q = some t → ∀ p ∈ l, (sl p.1).frz t (.sl z xs) = p.2) (hl0 : q = none → ∀ p ∈ l, sl p.1 = p.2)
    (h : ∀ o1, o1 b = some (.box (pre ++ .d (.sl z xs) :: post)) → (∀ u, u < k → q ≠ some u → o1 u = o u) → (∀ u cs, u ≠ b → o u = some (.box cs) → (∀ t, q = some t → cs.map (SV.frz t (.sl z xs)) = cs) → o1 u = some (.box cs)) → (∀ u e z xs, q ≠ some u → o u = some (.row e z xs) → o1 u = some (.row e z xs)) → WP P n k0 c ⟨al l, o1, nk⟩ Q) : WP P n k0 c ⟨sl, o, nk⟩ Q := by
  cases q with
  | none =>
    have hn : x = .d .nil ∧ xs = [] := by
      unfold dstOf at hx
      split at hx <;> first | cases hx | skip
      · exact ⟨rfl, rfl⟩
      · split at hx
        · split at hx <;> cases hx
        · cases hx
    obtain ⟨rfl, rfl⟩ := hn
    have les_refl : ∀ ds : List SV, SV.les ds ds := fun ds => by
      induction ds with
      | nil => trivial
      | cons d ds ih =>
        refine ⟨?_, ih⟩
        cases d <;> first | exact D.le_refl _ | rfl
    have hle : SV.les (pre ++ .d .nil :: post) (pre ++ .d (.sl z []) :: post) := by
      clear hb hp hl h
      induction pre with
      | nil => exact ⟨rfl, les_refl post⟩
      | cons d ds ih =>
        refine ⟨?_, ih⟩
        cases d <;> first | exact D.le_refl _ | rfl
    refine WP.le (Le.al (hl0 rfl)) (WP.leB _ hb hle fun o1 h1 h2 => h o1 h1 (fun u hu _ => h2 u (by omega)) (fun u cs hu hcs _ => (h2 u hu).trans hcs) fun u e z xs _ hu => (h2 u (fun e => by rw [e, hb] at hu; cases hu)).trans hu)
  | some t =>
    have hn : x = .row t ∧ o t = some (.row e z xs) := by
      unfold dstOf at hx
      split at hx <;> first | cases hx | skip
      split at hx
      · split at hx
        · rename_i h1 h2
          simp only [Option.some.injEq, Prod.mk.injEq] at hx
          obtain ⟨rfl, rfl⟩ := hx
          obtain ⟨rfl, rfl⟩ := h2
          exact ⟨rfl, h1⟩
        · cases hx
      · cases hx
    obtain ⟨rfl, ht⟩ := hn
    have hbt : b ≠ t := fun e => by rw [e, ht] at hb; cases hb
    refine WP.frzL l k ht (hl t rfl) fun o1 h1 h2 => h o1 ?_ (fun u hu hq => h1 u (fun e => hq (by rw [e])) hu) (fun u cs hu hcs hm => ?_) fun u e0 z0 xs0 hq hu => ?_
    rotate_left
    · have hut : u ≠ t := fun e => by rw [e, ht] at hcs; cases hcs
      rcases Nat.lt_or_ge u k with hk | hk
      · rw [h1 u hut hk, hcs]
      · rw [h2 u hut hk, hcs]
        simp only [Option.map_some, AO.frz, hm t rfl]
    · have hut : u ≠ t := fun e => hq (by rw [e])
      rcases Nat.lt_or_ge u k with hk | hk
      · rw [h1 u hut hk, hu]
      · rw [h2 u hut hk, hu]; rfl
    rw [h2 b hbt hkb, hb]
    simp only [Option.map_some, AO.frz, List.map_append, List.map_cons, (hp t rfl).1, (hp t rfl).2, SV.frz, if_true]
theorem dst_two {o : Nat → Option AO} {e z : Nat} {c : SV} {q : Option Nat} {xs : List D} (h : dstOf o e z c = some (q, xs)) : (c = .d .nil ∧ q = none ∧ xs = []) ∨ ∃ t, c = .row t ∧ q = some t ∧ o t = some (.row e z xs) := by
  unfold dstOf at h
  split at h
  · simp only [Option.some.injEq, Prod.mk.injEq] at h
    exact .inl ⟨rfl, h.1.symm, h.2.symm⟩
  · split at h
    · split at h
      · rename_i h1 h2
        simp only [Option.some.injEq, Prod.mk.injEq] at h
        obtain ⟨rfl, rfl⟩ := h
        obtain ⟨rfl, rfl⟩ := h2
        exact .inr ⟨_, rfl, rfl, h1⟩
      · cases h
    · cases h
  · cases h
/-- Two rows that lie in a variable's cells, one behind the other: both frozen. -/
theorem WP.frzC2 {P : Program} {n k0 : Nat} {Q : Exit → St → Prop} {c : Code} {sl : Nat → SV} {o : Nat → Option AO} {nk : Nat} (l : List (Nat × SV)) (k : Nat) {b e z e2 z2 : Nat} {pre post : List SV} {x y : SV} {q q2 : Option Nat} {xs ys : List D} (hb : o b = some (.box (pre ++ x :: y :: post))) (hx : dstOf o e z x = some (q, xs)) (hy : dstOf o e2 z2 y = some (q2, ys)) (hne : ∀ t, q = some t → q2 ≠ some t) (hkb : k ≤ b)
    (hp : ∀ t d, pre.map (SV.frz t d) = pre ∧ post.map (SV.frz t d) = post) (hl : ∀ t d, ∀ p ∈ l, (sl p.1).frz t d = p.2 ∧ p.2.frz t d = p.2) (hl0 : ∀ p ∈ l, sl p.1 = p.2) (hal : ∀ p ∈ l, al l p.1 = p.2)
    (h : ∀ o1, o1 b = some (.box (pre ++ .d (.sl z xs) :: .d (.sl z2 ys) :: post)) → (∀ u, u < k → q ≠ some u → q2 ≠ some u → o1 u = o u) → (∀ u cs, u ≠ b → o u = some (.box cs) → (∀ t d, cs.map (SV.frz t d) = cs) → o1 u = some (.box cs)) → WP P n k0 c ⟨al l, o1, nk⟩ Q) : WP P n k0 c ⟨sl, o, nk⟩ Q := by
  have hyf : ∀ t d, q = some t → y.frz t d = y := fun t d ht => by
    rcases dst_two hy with ⟨rfl, _, _⟩ | ⟨t2, rfl, h2, _⟩
    · rfl
    · simp only [SV.frz]
      rw [if_neg (fun e => hne t ht (by rw [h2, e]))]
  refine WP.frzC4 (post := y :: post) l k hb hx hkb (fun t ht => ⟨(hp t _).1, by simp only [List.map_cons, hyf t _ ht, (hp t _).2]⟩) (fun t _ p hpl => (hl t _ p hpl).1) (fun _ => hl0) fun o1 h1 h2 h3 h4 => ?_
  have hy1 : dstOf o1 e2 z2 y = some (q2, ys) := by
    rcases dst_two hy with ⟨rfl, rfl, rfl⟩ | ⟨t2, rfl, h5, h6⟩
    · rfl
    · have h7 := h4 t2 _ _ _ (fun e => hne t2 e h5) h6
      simp only [dstOf, h7, and_self, if_true, h5]
  have e : pre ++ SV.d (.sl z xs) :: y :: post = (pre ++ [SV.d (.sl z xs)]) ++ y :: post := by simp
  rw [e] at h1
  refine WP.frzC4 (pre := pre ++ [.d (.sl z xs)]) (post := post) l k h1 hy1 hkb (fun t ht => ⟨by simp only [List.map_append, (hp t _).1, List.map_cons, List.map_nil, SV.frz], (hp t _).2⟩) (fun t _ p hpl => by rw [hal p hpl]; exact (hl t _ p hpl).2) (fun _ => hal) fun o2 g1 g2 g3 _ => ?_
  refine h o2 (by rw [g1]; simp) (fun u hu ha hb2 => (g2 u hu hb2).trans (h2 u hu ha)) fun u cs hu hcs hm => g3 u cs hu (h3 u cs hu hcs fun t _ => hm t _) fun t _ => hm t _
/-- A row that lies in a slot: frozen. -/
theorem WP.frzS {P : Program} {n k0 : Nat} {Q : Exit → St → Prop} {c : Code} {sl : Nat → SV} {o : Nat → Option AO} {nk : Nat} (l : D → List (Nat × SV)) (k : Nat) {e z : Nat} {x : SV} {q : Option Nat} {xs : List D} (hx : dstOf o e z x = some (q, xs))
    (hl : ∀ t, q = some t → x = .row t → ∀ p ∈ l (.sl z xs), (sl p.1).frz t (.sl z xs) = p.2) (hl0 : x = .d .nil → ∀ p ∈ l .nil, sl p.1 = p.2)
    (h : ∀ y o1, D.le y (.sl z xs) → (∀ u, u < k → q ≠ some u → o1 u = o u) → WP P n k0 c ⟨al (l y), o1, nk⟩ Q) : WP P n k0 c ⟨sl, o, nk⟩ Q := by
  rcases dst_two hx with ⟨rfl, rfl, rfl⟩ | ⟨t, rfl, rfl, h2⟩
  · exact WP.le (Le.al (hl0 rfl)) (h .nil o rfl fun _ _ _ => rfl)
  · exact WP.frzL (l (.sl z xs)) k h2 (hl t rfl rfl) fun o1 h1 _ => h _ o1 (D.le_refl _) fun u hu hq => h1 u (fun e => hq (by rw [e])) hu
/-- A method whose answer may be weakened. -/
theorem MSpec.ofW {P : Program} {f : FuncId} {n : Nat} {ts : List Nat} {c : Code} {args : Nat → List SV} {cs cs' : List SV} {x : D} (hf : FnOk P f n ts c) (hn : ∀ k, (args k).length ≤ n) (hcs : ∀ m, SV.lts m cs')
    (h : ∀ o nk k, k < nk → o k = some (.box cs) → WP P n nk c ⟨slots (args k), o, nk⟩ (retQ ts fun r' o' nk' => (∃ x', r' = .d x' ∧ D.le x' x) ∧ nk ≤ nk' ∧ o' k = some (.box cs') ∧ ∀ t, t < nk ∧ t ≠ k → o' t = o t)) : MSpec P f args cs cs' (.d x) :=
  fun o nk k hM => Spec.pureM hM hcs (fun _ => trivial) rfl fun hk => Spec.weak (Q := fun o' nk' => nk ≤ nk' ∧ o' k = some (.box cs') ∧ ∀ t, t < nk ∧ t ≠ k → o' t = o t) (Spec.of_body hf (hn k) (h o nk k hk hM))
theorem retMW_ok {ts : List Nat} {sl : Nat → SV} {o o0 : Nat → Option AO} {nk nk0 k : Nat} {x x' : D} {cs : List SV} (h1 : resOf ts ⟨sl, o, nk⟩ = .d x') (hx : D.le x' x) (h3 : nk0 ≤ nk) (hk : o k = some (.box cs)) (h4 : ∀ t, t < nk0 ∧ t ≠ k → o t = o0 t) :
    retQ ts (fun r o' nk' => (∃ x', r = .d x' ∧ D.le x' x) ∧ nk0 ≤ nk' ∧ o' k = some (.box cs) ∧ ∀ t, t < nk0 ∧ t ≠ k → o' t = o0 t) .ret ⟨sl, o, nk⟩ := ⟨⟨x', h1, hx⟩, h3, hk, h4⟩
/-- A call that takes a live row, frozen, into a new variable. -/
theorem o_lcallF {P : Program} {Θ : Tab} {K : SV → (Nat → Option AO) → Nat → Prop} {sl : Nat → SV} {o : Nat → Option AO} {nk : Nat} {g : FuncId} {asx : Array Operand} {ts : Array Nat} {us us2 : List SV} {t1 e1 z : Nat} {xs : List D} {cs : List SV} (ht : o t1 = some (.row e1 z xs))
    (hs : ∀ o, Spec P g us2 o nk fun r' o' nk' => r' = .loc nk 0 ∧ o' = upd o nk (some (.box cs)) ∧ nk' = nk + 1) (ha : asx.toList.map (ev sl) = us) (hu : us.map (SV.frz t1 (.sl z xs)) = us2)
    (h : ∀ o1, o1 nk = some (.box cs) → (∀ u, u ≠ t1 → u ≠ nk → o1 u = o u) → K (.loc nk 0) o1 (nk + 1)) : vOp P Θ (.call { callee := .value (.func g), args := asx, argTypes := ts }) ⟨sl, o, nk⟩ K :=
  o_call (Spec.freeze ht (by rw [hu]; exact hs _)) ha (by rintro r' o' nk' ⟨rfl, rfl, rfl⟩; exact h _ (upd_same _ _ _) fun u hu hn => by simp [upd, hu, hn])
end Go.Proofs.YtpkcbdhjnnnkbaaGreat.Abs

set_option linter.unusedVariables false
set_option linter.unusedSimpArgs false
set_option maxRecDepth 10000
namespace Go.Proofs.YtpkcbdhjnnnkbaaGreat.Abs
open Go
def encB (b : UInt8) : D := .int .u8 (b.toNat : Int)
/-- Bytes that are left, and whether the source is bad. -/
abbrev SB := List UInt8 × Bool
def srcS (s : SB) : List SV := [.d (.sl 1 (s.1.map encB)), .d (.bool s.2)]
@[simp] theorem srcS_len (s : SB) : (srcS s).length = 2 := rfl
theorem srcS_lts (m : Nat) (s : SB) : SV.lts m (srcS s) := ⟨trivial, trivial, trivial⟩
section
variable {P : Program} {Θ : Tab} {K : SV → (Nat → Option AO) → Nat → Prop} {sl : Nat → SV} {o : Nat → Option AO} {nk : Nat} {x : Operand} {t e : Nat}
theorem o_sl_bL {i j : TI} {b : List UInt8} {lo : Operand} {m : Nat} (hx : ev sl x = .d (.sl 1 (b.map encB))) (hlo : ev sl lo = .d (.int .i64 (m : Int))) (hi : Θ t = some i) (hk : i.k = .slice e) (hj : Θ e = some j) (hz : j.sz = 1) (hm : m ≤ b.length) (h : K (.d (.sl 1 ((b.drop m).map encB))) o nk) : vOp P Θ (.slice t x (some lo) none none) ⟨sl, o, nk⟩ K := by
  refine o_sl_sl (m := b.length) (p := m) hx hi hk hj hz (by simp [bndO]) ?_ ?_
  · simp only [Option.map_some, bndO, hlo, bnd]
    rw [if_pos (by omega)]; simp
  · rw [List.take_of_length_le (by simp), ← List.map_drop]; exact h
theorem o_sl_bLH {i j : TI} {b : List UInt8} {lo hi2 : Operand} {m p : Nat} (hx : ev sl x = .d (.sl 1 (b.map encB))) (hlo : ev sl lo = .d (.int .i64 (m : Int))) (hhi : ev sl hi2 = .d (.int .i64 (p : Int))) (hi : Θ t = some i) (hk : i.k = .slice e) (hj : Θ e = some j) (hz : j.sz = 1) (hm : m ≤ p) (hp : p ≤ b.length) (h : K (.d (.sl 1 (((b.take p).drop m).map encB))) o nk) : vOp P Θ (.slice t x (some lo) (some hi2) none) ⟨sl, o, nk⟩ K := by
  refine o_sl_sl (m := p) (p := m) hx hi hk hj hz ?_ ?_ ?_
  · simp only [Option.map_some, bndO, hhi, bnd, List.length_map]
    rw [if_pos (by omega)]; simp
  · simp only [Option.map_some, bndO, hlo, bnd]
    rw [if_pos (by omega)]; simp
  · rw [← List.map_take, ← List.map_drop]; exact h
end
def rdByte (s : SB) : Int × SB := if s.2 = true ∨ s.1 = [] then (0, (s.1, true)) else (((s.1.headD 0).toNat : Int), (s.1.drop 1, false))
theorem rdByte_no {s : SB} (h : s.2 = true ∨ s.1 = []) : rdByte s = (0, (s.1, true)) := if_pos h
theorem rdByte_ok {s : SB} (h1 : s.2 = false) (h2 : 0 < s.1.length) : rdByte s = (((s.1[0]'h2).toNat : Int), (s.1.drop 1, false)) := by
  unfold rdByte
  rw [if_neg (by rintro (h | h); · rw [h1] at h; cases h
                 · rw [h] at h2; cases h2)]
  obtain ⟨b, bad⟩ := s
  cases b with
  | nil => simp at h2
  | cons a r => rfl
theorem byte_i64 (c : UInt8) : IntKind.i64.wrap (c.toNat : Int) = (c.toNat : Int) := wrap_i64 (by omega) (by have := c.toNat_lt; omega)
def leftS (s : SB) : Nat := if s.2 = true then 0 else s.1.length
def takeS (s : SB) (n : Nat) (right : Bool) : Bool × SB := if s.2 = true ∨ n = 0 ∨ right = false then (false, (s.1, true)) else (true, (s.1.drop n, false))
theorem takeS_no {s : SB} {n : Nat} {r : Bool} (h : s.2 = true ∨ n = 0 ∨ r = false) : takeS s n r = (false, (s.1, true)) := if_pos h
theorem takeS_ok {s : SB} {n : Nat} {r : Bool} (h : ¬ (s.2 = true ∨ n = 0 ∨ r = false)) : takeS s n r = (true, (s.1.drop n, false)) := if_neg h

theorem fn41 : FnOk Tryz.prog 41 11 [2] (bodyOf Tryz.f41) := ⟨Tryz.f41, Tryz.func41, by kernel_rfl, by decide, by kernel_rfl, by kernel_rfl⟩
theorem s41 {o : Nat → Option AO} {nk k : Nat} (s : SB) (hM : o k = some (.box (srcS s))) : Spec Tryz.prog 41 [.loc k 0] o nk (fun r' o' nk' => r' = .d (.bool s.2) ∧ o' = o ∧ nk' = nk) := by
 refine Spec.pure (fun _ => trivial) rfl (Spec.of_body fn41 (by simp) ?_)
 refine wr ?_
 refine ua ?_
 refine u_nil ?_
 refine wr ?_
 refine u_step (o_moveV (v := .loc _ _) rfl ?_)
 refine u_step (o_pnil rfl rfl th55 rfl hM ?_)
 refine um ?_
 apply gF
 · rfl
 · intro hg
   refine o_moveV (v := .loc _ _) rfl ⟨rfl, rfl, rfl⟩
 apply gF
 · rfl
 · intro hg; try simp only [hg, ct]; try simp only [hg, ct, Bt]
   refine o_nc rfl hM ⟨rfl, rfl, rfl⟩
 apply gF
 · rfl
 · intro hg; try simp only [hg, ct]; try simp only [hg, ct, Bt]
   exact pf th102 th4 hM
 apply gF
 · rfl
 · intro hg; try simp only [hg, ct]; try simp only [hg, ct, Bt]
   exact pl th4 hM
 refine uO ?_
 refine ua ?_
 refine u_nil ?_
 refine WP.ret ?_
 refine ret_ok rfl ?_ (by omega) (fun _ _ => rfl)
 -- ret 1
 refine congrArg D.bool ?_
 simp

theorem fn42 : FnOk Tryz.prog 42 10 [2] (bodyOf Tryz.f42) := ⟨Tryz.f42, Tryz.func42, by kernel_rfl, by decide, by kernel_rfl, by kernel_rfl⟩
theorem s42 {o : Nat → Option AO} {nk k : Nat} (s : SB) (hM : o k = some (.box (srcS s))) : Spec Tryz.prog 42 [.loc k 0] o nk (fun r' o' nk' => r' = .d (.int .i64 (leftS s : Nat)) ∧ o' = o ∧ nk' = nk) := by
 refine Spec.pure (fun _ => trivial) rfl (Spec.of_body fn42 (by simp) ?_)
 refine wr ?_
 refine ua ?_
 refine u_nil ?_
 refine WP.seq fun K2 hK2 => ?_
 refine wr ?_
 refine u_step (o_moveV (v := .loc _ _) rfl ?_)
 refine u_step (o_scall (s41 s hM) rfl ?_)
 refine u_nil ?_
 refine wc (fun hc4 => ?_) (fun hc4 => ?_) <;> try simp only [Q0, Q1, Q2, Q3, Q4, Q5, Q6, Q7, Q8, ge_iff_le, gt_iff_lt] at hc4
 ·
  refine wr ?_
  refine ua ?_
  refine u_nil ?_
  refine WP.ret ?_
  refine ret_ok rfl ?_ (by omega) (fun _ _ => rfl)
  -- ret 1
  refine congrArg (D.int .i64) ?_
  have hq := hc4
  simp [leftS, hq]
 ·
  refine WP.skip ?_
  refine hK2 _ ?_
  refine wr ?_
  refine u_step (o_moveV (v := .loc _ _) rfl ?_)
  refine u_step (o_nc rfl hM ?_)
  refine uf th102 th52 hM ?_
  refine ul th52 hM ?_
  refine un th52 ?_
  refine ua ?_
  refine u_nil ?_
  refine WP.ret ?_
  refine ret_ok rfl ?_ (by omega) (fun _ _ => rfl)
  -- ret 2
  refine congrArg (D.int .i64) ?_
  have hq := hc4
  simp [leftS, hq]

theorem fn109 : FnOk Tryz.prog 109 7 [] (bodyOf Tryz.f109) := ⟨Tryz.f109, Tryz.func109, by kernel_rfl, by decide, by kernel_rfl, by kernel_rfl⟩
theorem s109 (s : SB) : MSpec Tryz.prog 109 (fun k => [.loc k 0]) (srcS s) (srcS (s.1, true)) (.tup []) := by
 refine MSpec.of fn109 (fun _ => by simp) (fun _ => by first | exact srcS_lts _ _ | simp [SV.lts, SV.lt]) (fun _ => by first | trivial | simp [SV.lt, SV.lts]) (by first | rfl | simp [SV.ren, SV.rens]) fun o nk k hkn hM => ?_
 refine wr ?_
 refine u_step (o_moveV (v := .loc _ _) rfl ?_)
 refine u_step (o_pnnil rfl rfl th55 rfl hM ?_)
 refine u_nil ?_
 refine wc (fun hc2 => ?_) (fun hc2 => ?_) <;> try simp only [Q0, Q1, Q2, Q3, Q4, Q5, Q6, Q7, Q8, ge_iff_le, gt_iff_lt] at hc2
 ·
  refine WP.reg tabOk rfl ?_
  refine u_step (o_moveV (v := .loc _ _) rfl ?_)
  refine u_step (o_nc rfl hM ?_)
  refine uf th102 th4 hM ?_
  refine u_step0 (g_st rfl rfl rfl th4 rfl hM (by simp) fun o3 hb3 hk3 => ?_)
  refine u_nil ?_
  refine endM_ok rfl ?_ (by omega) hb3 (fun t ht => (hk3 t (by omega)))
  rfl
 ·
  cases hc2

theorem fn106 : FnOk Tryz.prog 106 25 [2] (bodyOf Tryz.f106) := ⟨Tryz.f106, Tryz.func106, by kernel_rfl, by decide, by kernel_rfl, by kernel_rfl⟩
theorem s106 (s : SB) : MSpec Tryz.prog 106 (fun k => [.loc k 0]) (srcS s) (srcS (rdByte s).2) (.d (.int .i64 (rdByte s).1)) := by
 refine MSpec.of fn106 (fun _ => by simp) (fun _ => by first | exact srcS_lts _ _ | simp [SV.lts, SV.lt]) (fun _ => by first | trivial | simp [SV.lt, SV.lts]) (by first | rfl | simp [SV.ren, SV.rens]) fun o nk k hkn hM => ?_
 refine wr ?_
 refine ua ?_
 refine u_nil ?_
 refine WP.seq fun K2 hK2 => ?_
 refine wr ?_
 refine u_step (o_moveV (v := .loc _ _) rfl ?_)
 refine u_step (o_scall (s42 s hM) rfl ?_)
 refine ub ?_
 refine u_nil ?_
 refine wc (fun hc4 => ?_) (fun hc4 => ?_) <;> try simp only [Q0, Q1, Q2, Q3, Q4, Q5, Q6, Q7, Q8, ge_iff_le, gt_iff_lt] at hc4
 ·
  have hz : s.2 = true ∨ s.1 = [] := by
    have hq := hc4
    cases hb : s.2 with
    | true => exact .inl rfl
    | false => refine .inr ?_; simp [leftS, hb] at hq; exact hq
  have hr := rdByte_no hz
  refine wr ?_
  refine u_step (o_moveV (v := .loc _ _) rfl ?_)
  refine u_step (g_mcall (s109 s) hM rfl fun o6 hb6 hk6 => ?_)
  refine u_nil ?_
  refine wr ?_
  refine ua ?_
  refine u_nil ?_
  refine WP.ret ?_
  refine retM_ok rfl ?_ (by omega) (by rw [hr]; exact hb6) (fun t ht => (hk6 t (by omega)))
  rw [hr]; rfl
 ·
  have hb : s.2 = false := by
    have hq := hc4
    cases hb : s.2 with
    | true => simp [leftS, hb] at hq
    | false => rfl
  have hl : 0 < s.1.length := by
    have hq := hc4
    simp [leftS, hb] at hq
    exact List.length_pos_iff.2 hq
  have hr := rdByte_ok hb hl
  refine WP.skip ?_
  refine hK2 _ ?_
  refine wr ?_
  refine u_step (o_moveV (v := .loc _ _) rfl ?_)
  refine u_step (o_nc rfl hM ?_)
  refine uf th102 th52 hM ?_
  refine ul th52 hM ?_
  refine u_step (o_ia_map rfl (show _ = SV.d (.int .i64 ((0 : Nat) : Int)) from rfl) th52 rfl th5 rfl hl ?_)
  refine uL th5 ?_
  refine ua ?_
  refine u_nil ?_
  refine wr ?_
  refine u_step (o_moveV (v := .loc _ _) rfl ?_)
  refine u_step (o_moveV (v := .loc _ _) rfl ?_)
  refine u_step (o_nc rfl hM ?_)
  refine uf th102 th52 hM ?_
  refine ul th52 hM ?_
  refine u_step (o_sl_bL (m := 1) rfl rfl th52 rfl th5 rfl (by omega) ?_)
  refine u_step (o_nc rfl hM ?_)
  refine uf th102 th52 hM ?_
  refine u_step0 (g_st rfl rfl rfl th52 rfl hM (by simp) fun o10 hb10 hk10 => ?_)
  refine u_nil ?_
  refine wr ?_
  refine um ?_
  refine uc th5 th3 ?_
  refine ua ?_
  refine u_nil ?_
  refine WP.ret ?_
  refine retM_ok rfl ?_ (by omega) (by rw [hr]; have h := hb10; simp only [srcS, hb] at h; exact h) (fun t ht => (hk10 t (by omega)))
  rw [hr]; exact congrArg (fun z => SV.d (.int .i64 z)) (byte_i64 _)

theorem fn143 : FnOk Tryz.prog 143 28 [6] (bodyOf Tryz.f143) := ⟨Tryz.f143, Tryz.func143, by kernel_rfl, by decide, by kernel_rfl, by kernel_rfl⟩
theorem s143 (s : SB) (n : Nat) (right : Bool) (hn : s.2 = false → n ≤ s.1.length) : MSpec Tryz.prog 143 (fun k => [.loc k 0, .d (.int .i64 n), .d (.bool right)]) (srcS s) (srcS (takeS s n right).2) (.d (.bool (takeS s n right).1)) := by
 refine MSpec.of fn143 (fun _ => by simp) (fun _ => by first | exact srcS_lts _ _ | simp [SV.lts, SV.lt]) (fun _ => by first | trivial | simp [SV.lt, SV.lts]) (by first | rfl | simp [SV.ren, SV.rens]) fun o nk k hkn hM => ?_
 refine wr ?_
 refine ua ?_
 refine u_nil ?_
 refine WP.seq fun K2 hK2 => ?_
 refine wr ?_
 refine u_step (o_moveV (v := .loc _ _) rfl ?_)
 refine u_step (o_scall (s41 s hM) rfl ?_)
 refine um ?_
 apply gF
 · rfl
 · intro hg
   exact pm
 apply gF
 · rfl
 · intro hg; try simp only [hg, ct]; try simp only [hg, ct, Bt]
   exact pb
 refine uO ?_
 refine um ?_
 apply gF
 · rfl
 · intro hg
   exact pm
 apply gF
 · rfl
 · intro hg; try simp only [hg, ct]; try simp only [hg, ct, Bt]
   exact pN
 refine uO ?_
 refine u_nil ?_
 refine wc (fun hc4 => ?_) (fun hc4 => ?_) <;> try simp only [Q0, Q1, Q2, Q3, Q4, Q5, Q6, Q7, Q8, ge_iff_le, gt_iff_lt] at hc4
 ·
  have hz : s.2 = true ∨ n = 0 ∨ right = false := by have hq := hc4; simp at hq; grind
  have hr := takeS_no hz
  refine wr ?_
  refine u_step (o_moveV (v := .loc _ _) rfl ?_)
  refine u_step (g_mcall (s109 s) hM rfl fun o6 hb6 hk6 => ?_)
  refine u_nil ?_
  refine wr ?_
  refine ua ?_
  refine u_nil ?_
  refine WP.ret ?_
  refine retM_ok rfl ?_ (by omega) (by rw [hr]; exact hb6) (fun t ht => (hk6 t (by omega)))
  rw [hr]; rfl
 ·
  have hz : ¬ (s.2 = true ∨ n = 0 ∨ right = false) := by have hq := hc4; simp at hq; grind
  have hr := takeS_ok hz
  have hb : s.2 = false := by cases hb : s.2 with | true => exact absurd (.inl hb) hz | false => rfl
  have hl := hn hb
  refine WP.skip ?_
  refine hK2 _ ?_
  refine wr ?_
  refine u_step (o_moveV (v := .loc _ _) rfl ?_)
  refine u_step (o_moveV (v := .loc _ _) rfl ?_)
  refine u_step (o_nc rfl hM ?_)
  refine uf th102 th52 hM ?_
  refine ul th52 hM ?_
  refine um ?_
  refine u_step (o_sl_bL (m := n) rfl rfl th52 rfl th5 rfl hl ?_)
  refine u_step (o_nc rfl hM ?_)
  refine uf th102 th52 hM ?_
  refine u_step0 (g_st rfl rfl rfl th52 rfl hM (by simp) fun o9 hb9 hk9 => ?_)
  refine u_nil ?_
  refine wr ?_
  refine ua ?_
  refine u_nil ?_
  refine WP.ret ?_
  refine retM_ok rfl ?_ (by omega) (by rw [hr]; have h := hb9; simp only [srcS, hb] at h; exact h) (fun t ht => (hk9 t (by omega)))
  rw [hr]; rfl

end Go.Proofs.YtpkcbdhjnnnkbaaGreat.Abs

set_option linter.unusedVariables false
set_option linter.unusedSimpArgs false
set_option maxRecDepth 10000
namespace Go.Proofs.YtpkcbdhjnnnkbaaGreat.Abs
open Go
/-- The groups that come next: the number, and how many bytes. -/
def gR : Nat → List UInt8 → Nat → Nat → Option (Nat × Nat)
  | 0, _, _, _ => none
  | f + 1, b, i, u => match b[i]? with
    | none => none
    | some c => if (i = 9 ∧ 1 < c.toNat) ∨ (0 < i ∧ c.toNat = 0) then none
      else if c.toNat < 128 then some (u + c.toNat % 128 * 2 ^ (7 * i), i + 1) else gR f b (i + 1) (u + c.toNat % 128 * 2 ^ (7 * i))
def rdG (b : List UInt8) : Option (Nat × Nat) := gR 10 b 0 0
def gP (s : SB) : Nat × Nat := if s.2 = true then (0, 0) else (rdG s.1).getD (0, 0)
theorem gR_at {b : List UInt8} {i u : Nat} (hi : i < 10) (hl : i < b.length) : gR (10 - i) b i u = if (i = 9 ∧ 1 < (b[i]'hl).toNat) ∨ (0 < i ∧ (b[i]'hl).toNat = 0) then none
      else if (b[i]'hl).toNat < 128 then some (u + (b[i]'hl).toNat % 128 * 2 ^ (7 * i), i + 1) else gR (10 - (i + 1)) b (i + 1) (u + (b[i]'hl).toNat % 128 * 2 ^ (7 * i)) := by
  rw [show 10 - i = (10 - (i + 1)) + 1 by omega]
  simp only [gR, List.getElem?_eq_getElem hl]
theorem gR_end {b : List UInt8} {i u : Nat} (h : b.length ≤ i ∨ 10 ≤ i) : gR (10 - i) b i u = none := by
  cases hf : 10 - i with
  | zero => rfl
  | succ f =>
    rcases h with h | h
    · simp only [gR, List.getElem?_eq_none h]
    · omega
theorem gq_next {u i x : Nat} (hu : u < 2 ^ (7 * i)) (hx : x ≤ 127) : u + x * 2 ^ (7 * i) < 2 ^ (7 * (i + 1)) := by
  have h1 : x * 2 ^ (7 * i) ≤ 127 * 2 ^ (7 * i) := Nat.mul_le_mul_right _ hx
  have h2 : 2 ^ (7 * (i + 1)) = 128 * 2 ^ (7 * i) := by rw [show 7 * (i + 1) = 7 * i + 7 by omega, Nat.pow_add]; omega
  omega
theorem g_fits {u i x : Nat} (hu : u < 2 ^ (7 * i)) (hi : i ≤ 9) (hx : x ≤ 127) (h9 : i = 9 → x ≤ 1) : u + x * 2 ^ (7 * i) < 18446744073709551616 := by
  by_cases h : i = 9
  · subst h
    have := h9 rfl
    have h1 : x * 2 ^ (7 * 9) ≤ 1 * 2 ^ (7 * 9) := Nat.mul_le_mul_right _ this
    omega
  · have h1 := gq_next hu hx
    have h2 : 2 ^ (7 * (i + 1)) ≤ 2 ^ 63 := Nat.pow_le_pow_right (by omega) (by omega)
    omega
theorem wrap_u64n {n : Nat} (h : n < 18446744073709551616) : IntKind.u64.wrap (n : Int) = (n : Int) := by
  simp only [IntKind.wrap, IntKind.bits, IntKind.signed]
  simp
  omega
theorem and127 (c : UInt8) : bitsOf .and .u8 (c.toNat : Int) 127 = ((c.toNat % 128 : Nat) : Int) := by
  have h : ∀ b : BitVec 8, (b &&& 127#8).toNat = b.toNat % 128 := by decide
  have e : bitsOf .and .u8 (c.toNat : Int) 127 = IntKind.u8.wrap ((BitVec.ofInt 8 (c.toNat : Int) &&& 127#8).toNat : Int) := rfl
  have e2 : (BitVec.ofInt 8 (c.toNat : Int)).toNat = c.toNat := by simp [BitVec.toNat_ofInt]
  rw [e, h, e2]
  simp only [IntKind.wrap, IntKind.bits, IntKind.signed]
  simp
  omega
theorem shl_step {i x : Nat} (hi : i ≤ 9) (hx : x ≤ 127) (h9 : i = 9 → x ≤ 1) : IntKind.u64.wrap (((x : Nat) : Int) * 2 ^ min (IntKind.i64.wrap (7 * (i : Int))).toNat (IntKind.bits .u64)) = ((x * 2 ^ (7 * i) : Nat) : Int) := by
  have e3 : min (IntKind.i64.wrap (7 * (i : Int))).toNat (IntKind.bits .u64) = 7 * i := by
    rw [wrap_i64 (by omega) (by omega)]
    show min _ 64 = _
    omega
  have h := g_fits (u := 0) (i := i) (x := x) (Nat.two_pow_pos _) hi hx h9
  have e4 : ((x : Nat) : Int) * 2 ^ (7 * i) = ((x * 2 ^ (7 * i) : Nat) : Int) := by simp [Int.natCast_mul, Int.natCast_pow]
  rw [e3, e4, wrap_u64n (by omega)]
theorem ofI64 {m : Nat} (h : m < 18446744073709551616) : (BitVec.ofInt 64 (m : Int)).toNat = m := by simp [BitVec.toNat_ofInt]; omega
theorem min10 (n : Nat) : SV.d (.int .i64 (if (Builtin.min == Builtin.max) = true then if (n : Int) < 10 then 10 else (n : Int) else if 10 < (n : Int) then 10 else (n : Int))) = SV.d (.int .i64 (min n 10 : Nat)) := by
  rw [if_neg (by decide)]
  refine congrArg (fun z => SV.d (.int .i64 z)) ?_
  split <;> omega
theorem gP_bad {s : SB} (h : s.2 = true) : gP s = (0, 0) := if_pos h
theorem gP_no {s : SB} (h : rdG s.1 = none) : gP s = (0, 0) := by unfold gP; split <;> simp [h]
theorem gP_ok {s : SB} {p : Nat × Nat} (hb : s.2 = false) (h : rdG s.1 = some p) : gP s = p := by unfold gP; rw [hb, if_neg (by decide), h]; rfl
theorem left_pos {s : SB} {i : Nat} (h : i < leftS s) : s.2 = false ∧ i < s.1.length := by
  unfold leftS at h
  split at h
  · omega
  · rename_i hb; exact ⟨by simpa using hb, h⟩
theorem shG {x : Int} {i : Nat} (hi : i ≤ 9) : shBin .shl .u64 x (IntKind.i64.wrap (7 * (i : Int))) = some (.int .u64 (IntKind.u64.wrap (x * 2 ^ min (IntKind.i64.wrap (7 * (i : Int))).toNat (IntKind.bits .u64)))) := by
  simp only [shBin]
  rw [if_neg (by rw [wrap_i64 (by omega) (by omega)]; omega)]
theorem tupG {p q : Nat × Nat} (h : q = p) : SV.tup [.d (.int .u64 (p.1 : Nat)), .d (.int .i64 (p.2 : Nat))] = .tup (([.int .u64 (q.1 : Nat), .int .i64 (q.2 : Nat)] : List D).map .d) := by rw [h]; rfl
/-- The next byte ends the number, wrongly. -/
def gBad (i c : Nat) : Prop := (i = 9 ∧ 1 < c) ∨ (0 < i ∧ c = 0)
instance (i c : Nat) : Decidable (gBad i c) := by unfold gBad; infer_instance
theorem gP_end {s : SB} {i u : Nat} (hie : i = min (leftS s) 10) (hg : rdG s.1 = gR (10 - i) s.1 i u) : gP s = (0, 0) := by
  cases hb : s.2 with
  | true => exact gP_bad hb
  | false =>
    refine gP_no ?_
    rw [hg]
    refine gR_end ?_
    simp [leftS, hb] at hie
    omega
theorem or_step {u i : Nat} {c : UInt8} (hu : u < 2 ^ (7 * i)) (hi : i ≤ 9) (h9 : i = 9 → c.toNat ≤ 1) :
    bitsOf .or .u64 (u : Int) (IntKind.u64.wrap (IntKind.u64.wrap (bitsOf .and .u8 (c.toNat : Int) 127) * 2 ^ min (IntKind.i64.wrap (7 * (i : Int))).toNat (IntKind.bits .u64))) = ((u + c.toNat % 128 * 2 ^ (7 * i) : Nat) : Int) := by
  have hx : c.toNat % 128 ≤ 127 := by omega
  have h9' : i = 9 → c.toNat % 128 ≤ 1 := fun h => by have := h9 h; omega
  have hf := g_fits hu hi hx h9'
  rw [and127, wrap_u64n (by omega), shl_step hi hx h9']
  generalize hm : c.toNat % 128 = x at *
  show IntKind.u64.wrap ((BitVec.ofInt 64 (u : Int) ||| BitVec.ofInt 64 ((x * 2 ^ (7 * i) : Nat) : Int)).toNat : Int) = _
  have t1 : (BitVec.ofInt 64 (u : Int)).toNat = u := ofI64 (by omega)
  have t2 : (BitVec.ofInt 64 ((x * 2 ^ (7 * i) : Nat) : Int)).toNat = x * 2 ^ (7 * i) := ofI64 (by omega)
  have e : u ||| x * 2 ^ (7 * i) = u + x * 2 ^ (7 * i) := by
    have := Nat.two_pow_add_eq_or_of_lt hu x
    rw [Nat.or_comm, Nat.mul_comm x, ← this]; omega
  rw [BitVec.toNat_or, t1, t2, e, wrap_u64n hf]
theorem add_step {u i : Nat} {c : UInt8} (hu : u < 2 ^ (7 * i)) (hi : i ≤ 9) (h9 : i = 9 → c.toNat ≤ 1) :
    IntKind.u64.wrap ((u : Int) + IntKind.u64.wrap (IntKind.u64.wrap ((c.toNat : Int).tmod 128) * 2 ^ min (IntKind.i64.wrap (7 * (i : Int))).toNat (IntKind.bits .u64))) = ((u + c.toNat % 128 * 2 ^ (7 * i) : Nat) : Int) := by
  have hx : c.toNat % 128 ≤ 127 := by omega
  have h9' : i = 9 → c.toNat % 128 ≤ 1 := fun h => by have := h9 h; omega
  have hf := g_fits hu hi hx h9'
  have e1 : (c.toNat : Int).tmod 128 = ((c.toNat % 128 : Nat) : Int) := by rw [Int.tmod_eq_emod_of_nonneg (by omega)]; omega
  rw [e1, wrap_u64n (by omega), shl_step hi hx h9', ← Int.natCast_add, wrap_u64n hf]

theorem fn142 : FnOk Tryz.prog 142 47 [2, 3] (bodyOf Tryz.f142) := ⟨Tryz.f142, Tryz.func142, by kernel_rfl, by decide, by kernel_rfl, by kernel_rfl⟩
theorem s142 (s : SB) : MSpec Tryz.prog 142 (fun k => [.loc k 0]) (srcS s) (srcS s) (.tup (([.int .u64 ((gP s).1 : Nat), .int .i64 ((gP s).2 : Nat)]).map .d)) := by
 refine MSpec.of fn142 (fun _ => by simp) (fun _ => by first | exact srcS_lts _ _ | simp [SV.lts, SV.lt]) (fun _ => by first | trivial | simp [SV.lt, SV.lts]) (by first | rfl | simp [SV.ren, SV.rens]) fun o nk k hkn hM => ?_
 refine wr ?_
 refine ua ?_
 refine ua ?_
 refine u_nil ?_
 refine wr ?_
 refine ua ?_
 refine u_nil ?_
 refine WP.seq fun K3 hK3 => ?_
 refine wr ?_
 refine u_step (o_moveV (v := .loc _ _) rfl ?_)
 refine u_step (o_scall (s42 s hM) rfl ?_)
 refine u_step (o_mm (by decide) rfl ?_)
 refine um ?_
 refine u_nil ?_
 refine WP.block ?_
 refine WP.loopL (ι := Nat × Nat) (fun ⟨i, u⟩ => ⟨al [(0, .loc k 0), (4, .d (.int .u64 (u : Nat))), (9, .d (.int .i64 (min (leftS s) 10 : Nat))), (10, .d (.int .i64 i))], o, nk⟩) (fun ⟨i, u⟩ => i ≤ min (leftS s) 10 ∧ u < 2 ^ (7 * i) ∧ rdG s.1 = gR (10 - i) s.1 i u) (fun ⟨i, u⟩ => min (leftS s) 10 - i) (fun ⟨i, u⟩ hA => ?_) ⟨0, 0⟩ ?_ ?_
 ·
  obtain ⟨hle, hu, hg⟩ := hA
  refine wr ?_
  refine ub ?_
  refine u_nil ?_
  refine WP.seq fun K6 hK6 => ?_
  refine wc (fun hc7 => ?_) (fun hc7 => ?_) <;> try simp only [Q0, Q1, Q2, Q3, Q4, Q5, Q6, Q7, Q8, ge_iff_le, gt_iff_lt] at hc7
  ·
   have hi10 : i < min (leftS s) 10 := by have := hc7; (try simp at this); omega
   have hlp := left_pos (s := s) (i := i) (by omega)
   have hb := hlp.1
   have hl := hlp.2
   have hga := gR_at (b := s.1) (i := i) (u := u) (by omega) hl
   have hi9 : i ≤ 9 := by omega
   refine WP.skip ?_
   refine hK6 _ ?_
   refine WP.seq fun K8 hK8 => ?_
   refine WP.block ?_
   refine wr ?_
   refine um ?_
   refine ua ?_
   refine u_nil ?_
   refine wr ?_
   refine u_step (o_moveV (v := .loc _ _) rfl ?_)
   refine u_step (o_nc rfl hM ?_)
   refine uf th102 th52 hM ?_
   refine ul th52 hM ?_
   refine um ?_
   refine u_step (o_ia_map rfl rfl th52 rfl th5 rfl hl ?_)
   refine uL th5 ?_
   refine ua ?_
   refine u_nil ?_
   refine WP.seq fun K11 hK11 => ?_
   refine WP.block ?_
   refine WP.seqJ ⟨al [(0, .loc k 0), (4, .d (.int .u64 (u : Nat))), (5, .d (.int .i64 i)), (6, .d (.int .u8 ((s.1[i]).toNat : Int))), (9, .d (.int .i64 (min (leftS s) 10 : Nat))), (10, .d (.int .i64 i)), (20, .d (.bool (decide (gBad i (s.1[i]).toNat))))], o, nk⟩ ?_ ?_
   ·
    refine wr ?_
    refine um ?_
    refine ub ?_
    refine um ?_
    apply gT
    · rfl
    · intro hg
      exact pm
    apply gT
    · rfl
    · intro hg; try simp only [hg, ct]; try simp only [hg, ct, Bt]
      exact pb
    refine uA ?_
    refine ua ?_
    refine u_nil ?_
    refine wc (fun hc13 => ?_) (fun hc13 => ?_) <;> try simp only [Q0, Q1, Q2, Q3, Q4, Q5, Q6, Q7, Q8, ge_iff_le, gt_iff_lt] at hc13
    ·
     refine WP.skip ?_
     refine Le.al ?_
     simp only [List.forall_mem_cons]
     have hl2 := hc13
     refine ⟨rfl, rfl, rfl, rfl, rfl, rfl, ?_, by simp⟩
     refine congrArg (fun z => SV.d (.bool z)) ?_
     generalize (s.1[i]).toNat = c at hl2 ⊢
     rw [Bool.eq_iff_iff, decide_eq_true_iff]
     unfold gBad
     simp at hl2 ⊢
     omega
    ·
     try have hbad : ¬ gBad i (s.1[i]).toNat := hc13
     refine WP.reg tabOk rfl ?_
     refine um ?_
     refine ub ?_
     refine um ?_
     apply gT
     · rfl
     · intro hg
       exact pm
     apply gT
     · rfl
     · intro hg; try simp only [hg, ct]; try simp only [hg, ct, Bt]
       exact pb
     refine uA ?_
     refine ua ?_
     refine u_nil ?_
     refine Le.al ?_
     simp only [List.forall_mem_cons]
     have hl2 := hc13
     refine ⟨rfl, rfl, rfl, rfl, rfl, rfl, ?_, by simp⟩
     refine congrArg (fun z => SV.d (.bool z)) ?_
     generalize (s.1[i]).toNat = c at hl2 ⊢
     rw [Bool.eq_iff_iff, decide_eq_true_iff]
     unfold gBad
     simp at hl2 ⊢
     omega
   ·
    refine wc (fun hc14 => ?_) (fun hc14 => ?_) <;> try simp only [Q0, Q1, Q2, Q3, Q4, Q5, Q6, Q7, Q8, ge_iff_le, gt_iff_lt] at hc14
    ·
     refine wr ?_
     refine ua ?_
     refine ua ?_
     refine u_nil ?_
     refine WP.ret ?_
     refine retM_ok rfl ?_ (by omega) hM (fun _ _ => rfl)
     exact tupG (gP_no (hg.trans (hga.trans (if_pos hc14))))
    ·
     try have hbad : ¬ gBad i (s.1[i]).toNat := hc14
     refine WP.skip ?_
     refine hK11 _ ?_
     refine wr ?_
     refine um ?_
     refine um ?_
     refine ub ?_
     refine uc th5 th126 ?_
     refine um ?_
     refine ub ?_
     refine u_step (o_bin_sh rfl rfl (shG hi9) ?_)
     refine ub ?_
     refine ua ?_
     refine u_nil ?_
     refine wr ?_
     refine um ?_
     refine ub ?_
     refine u_nil ?_
     refine wc (fun hc18 => ?_) (fun hc18 => ?_) <;> try simp only [Q0, Q1, Q2, Q3, Q4, Q5, Q6, Q7, Q8, ge_iff_le, gt_iff_lt] at hc18
     ·
      have h128 : (s.1[i]).toNat < 128 := by have hq := hc18; (try simp at hq); omega
      have hgp := gP_ok hb (hg.trans (hga.trans ((if_neg hbad).trans (if_pos h128))))
      refine wr ?_
      refine um ?_
      refine um ?_
      refine ub ?_
      refine ua ?_
      refine ua ?_
      refine u_nil ?_
      refine WP.ret ?_
      refine retM_ok rfl ?_ (by omega) hM (fun _ _ => rfl)
      rw [or_step hu hi9 (fun h => by unfold gBad at hbad; omega), wrap_succ (by omega)]
      exact tupG hgp
     ·
      have h128 : ¬ (s.1[i]).toNat < 128 := by have hq := hc18; (try simp at hq); omega
      have hgn := hga.trans ((if_neg hbad).trans (if_neg h128))
      refine WP.skip ?_
      refine hK8 _ ?_
      refine WP.reg tabOk rfl ?_
      refine ub ?_
      refine um ?_
      refine u_nil ?_
      -- back
      refine ⟨⟨i + 1, u + (s.1[i]).toNat % 128 * 2 ^ (7 * i)⟩, ⟨by omega, gq_next hu (by omega), hg.trans hgn⟩, by simp only; omega, ?_⟩
      refine Le.al ?_
      simp only [List.forall_mem_cons]
      refine ⟨rfl, ?_, rfl, cnt (by omega), by simp⟩
      exact congrArg (fun z => SV.d (.int .u64 z)) (or_step hu hi9 (fun h => by unfold gBad at hbad; omega))
  ·
   have hie : i = min (leftS s) 10 := by have := hc7; (try simp at this); omega
   have hgp := gP_end hie hg
   refine WP.exit ?_
   refine hK3 _ ?_
   refine wr ?_
   refine ua ?_
   refine ua ?_
   refine u_nil ?_
   refine WP.ret ?_
   refine retM_ok rfl ?_ (by omega) hM (fun _ _ => rfl)
   exact tupG hgp
 ·
  exact ⟨by omega, by simp, rfl⟩
 ·
  refine Le.al ?_
  simp only [List.forall_mem_cons]
  exact ⟨rfl, rfl, min10 _, rfl, by simp⟩

end Go.Proofs.YtpkcbdhjnnnkbaaGreat.Abs

set_option linter.unusedVariables false
set_option linter.unusedSimpArgs false
set_option maxRecDepth 10000
namespace Go.Proofs.YtpkcbdhjnnnkbaaGreat.Abs
open Go
theorem gR_len : ∀ (f : Nat) (b : List UInt8) (i u v n : Nat), gR f b i u = some (v, n) → n ≤ b.length ∧ i < n ∧ n ≤ i + f
  | 0, b, i, u, v, n, h => by simp [gR] at h
  | f + 1, b, i, u, v, n, h => by
    simp only [gR] at h
    split at h
    · cases h
    · rename_i c hc
      have hl := (List.getElem?_eq_some_iff.1 hc).1
      split at h
      · cases h
      · split at h
        · simp only [Option.some.injEq, Prod.mk.injEq] at h
          omega
        · have := gR_len f b (i + 1) _ v n h
          omega
theorem gR_val : ∀ (f : Nat) (b : List UInt8) (i u v n : Nat), i + f ≤ 10 → u < 2 ^ (7 * i) → gR f b i u = some (v, n) → v < 18446744073709551616
  | 0, b, i, u, v, n, _, _, h => by simp [gR] at h
  | f + 1, b, i, u, v, n, hi, hu, h => by
    simp only [gR] at h
    split at h
    · cases h
    · rename_i c hc
      split at h
      · cases h
      · rename_i hn
        split at h
        · simp only [Option.some.injEq, Prod.mk.injEq] at h
          obtain ⟨rfl, _⟩ := h
          exact g_fits hu (by omega) (by omega) (fun e => by omega)
        · exact gR_val f b (i + 1) _ v n (by omega) (gq_next hu (by omega)) h
theorem gP_len (s : SB) : (s.2 = false → (gP s).2 ≤ s.1.length) ∧ (gP s).1 < 18446744073709551616 ∧ (gP s).2 ≤ 10 := by
  unfold gP
  split
  · exact ⟨fun _ => Nat.zero_le _, by simp⟩
  · cases h : rdG s.1 with
    | none => simp
    | some p =>
      have h1 := gR_len 10 s.1 0 0 p.1 p.2 h
      have h2 := gR_val 10 s.1 0 0 p.1 p.2 (by omega) (by simp) h
      simp only [Option.getD_some]
      omega
def rightS (u : Nat) (most : Int) : Bool := decide ((u : Int) ≤ 4611686018427387904) && decide (IntKind.i64.wrap (u : Int) ≤ most)
def cntS (s : SB) (most : Int) : Int × SB := (if (takeS s (gP s).2 (rightS (gP s).1 most)).1 = true then IntKind.i64.wrap ((gP s).1 : Int) else 0, (takeS s (gP s).2 (rightS (gP s).1 most)).2)
def zagI (u : Nat) : Int := if u % 2 = 0 then ((u / 2 : Nat) : Int) else -((u / 2 : Nat) : Int) - 1
def intS (s : SB) : Int × SB := (if (takeS s (gP s).2 true).1 = true then zagI (gP s).1 else 0, (takeS s (gP s).2 true).2)
theorem cntS_yes {s : SB} {most : Int} (h : (takeS s (gP s).2 (rightS (gP s).1 most)).1 = true) : (cntS s most).1 = IntKind.i64.wrap ((gP s).1 : Int) := if_pos h
theorem cntS_no {s : SB} {most : Int} (h : (takeS s (gP s).2 (rightS (gP s).1 most)).1 = false) : (cntS s most).1 = 0 := if_neg (by rw [h]; decide)
theorem intS_yes {s : SB} (h : (takeS s (gP s).2 true).1 = true) : (intS s).1 = zagI (gP s).1 := if_pos h
theorem intS_no {s : SB} (h : (takeS s (gP s).2 true).1 = false) : (intS s).1 = 0 := if_neg (by rw [h]; decide)
theorem and1_64 {u : Nat} (h : u < 18446744073709551616) : bitsOf .and .u64 (u : Int) 1 = ((u % 2 : Nat) : Int) := by
  show IntKind.u64.wrap ((BitVec.ofInt 64 (u : Int) &&& BitVec.ofInt 64 1).toNat : Int) = _
  have e2 : (BitVec.ofInt 64 (1 : Int)).toNat = 1 := by decide
  rw [BitVec.toNat_and, ofI64 h, e2, Nat.and_one_is_mod, wrap_u64n (by omega)]
theorem xor0 (m : Int) (h1 : 0 ≤ m) (h2 : m < 9223372036854775808) : bitsOf .xor .i64 m 0 = m := by
  obtain ⟨n, rfl⟩ : ∃ n : Nat, m = n := ⟨m.toNat, by omega⟩
  show IntKind.i64.wrap ((BitVec.ofInt 64 (n : Int) ^^^ BitVec.ofInt 64 0).toNat : Int) = _
  have e2 : (BitVec.ofInt 64 (0 : Int)).toNat = 0 := by decide
  rw [BitVec.toNat_xor, ofI64 (by omega), e2, Nat.xor_zero, wrap_i64 (by omega) (by omega)]
theorem xor1 (m : Int) (h1 : 0 ≤ m) (h2 : m < 9223372036854775808) : bitsOf .xor .i64 m (-1) = -m - 1 := by
  obtain ⟨n, rfl⟩ : ∃ n : Nat, m = n := ⟨m.toNat, by omega⟩
  show IntKind.i64.wrap ((BitVec.ofInt 64 (n : Int) ^^^ BitVec.ofInt 64 (-1)).toNat : Int) = _
  have e1 : BitVec.ofInt 64 (-1) = BitVec.allOnes 64 := by decide
  have e3 : (BitVec.ofInt 64 (n : Int) ^^^ BitVec.allOnes 64).toNat = 2 ^ 64 - 1 - n := by
    rw [BitVec.xor_allOnes, BitVec.toNat_not, ofI64 (by omega)]
  rw [e1, e3]
  simp only [IntKind.wrap, IntKind.bits, IntKind.signed]
  simp
  omega
theorem zag_ok {u : Nat} (h : u < 18446744073709551616) : bitsOf .xor .i64 (IntKind.i64.wrap ((u : Int).fdiv (2 ^ min (Int.toNat 1) (IntKind.bits .u64)))) (IntKind.i64.wrap (0 - IntKind.i64.wrap (bitsOf .and .u64 (u : Int) 1))) = zagI u := by
  have e1 : (u : Int).fdiv (2 ^ min (Int.toNat 1) (IntKind.bits .u64)) = ((u / 2 : Nat) : Int) := by
    show (u : Int).fdiv 2 = _
    rw [Int.fdiv_eq_ediv_of_nonneg _ (by omega)]; omega
  rw [e1, and1_64 h, wrap_i64 (m := ((u / 2 : Nat) : Int)) (by omega) (by omega), wrap_i64 (m := ((u % 2 : Nat) : Int)) (by omega) (by omega)]
  unfold zagI
  by_cases h2 : u % 2 = 0
  · rw [if_pos h2, h2]
    exact xor0 _ (by omega) (by omega)
  · rw [if_neg h2, show u % 2 = 1 by omega]
    exact xor1 _ (by omega) (by omega)
def txtBad (s : SB) (most : Int) : Bool := decide (4611686018427387904 < ((gP s).1 : Int)) || decide (most < IntKind.i64.wrap ((gP s).1 : Int)) || decide (IntKind.i64.wrap ((leftS s : Int) - ((gP s).2 : Int)) < IntKind.i64.wrap ((gP s).1 : Int)) || (((gP s).2 : Int) == 0)
def txtS (s : SB) (most : Int) : Str × SB := if txtBad s most = true then ([], (s.1, true)) else ((s.1.take ((gP s).2 + (gP s).1)).drop (gP s).2, (s.1.drop ((gP s).2 + (gP s).1), false))
theorem txtS_no {s : SB} {most : Int} (h : txtBad s most = true) : txtS s most = ([], (s.1, true)) := if_pos h
theorem txtS_ok {s : SB} {most : Int} (h : txtBad s most = false) : txtS s most = ((s.1.take ((gP s).2 + (gP s).1)).drop (gP s).2, (s.1.drop ((gP s).2 + (gP s).1), false)) := if_neg (by rw [h]; decide)
theorem txt_fits {s : SB} {most : Int} (hx : s.1.length ≤ 9223372036854775807) (h : txtBad s most = false) : s.2 = false ∧ (gP s).2 + (gP s).1 ≤ s.1.length ∧ (gP s).1 ≤ 4611686018427387904 := by
  have hl := gP_len s
  simp only [txtBad, Bool.or_eq_false_iff, decide_eq_false_iff_not, beq_eq_false_iff_ne, ne_eq] at h
  obtain ⟨⟨⟨h1, h2⟩, h3⟩, h4⟩ := h
  have hb : s.2 = false := by
    cases hb : s.2 with
    | false => rfl
    | true => rw [gP_bad hb] at h4; simp at h4
  have hls : leftS s = s.1.length := by simp [leftS, hb]
  have hl1 := hl.1 hb
  rw [hls, wrap_i64 (by omega) (by omega), wrap_i64 (by omega) (by omega)] at h3
  exact ⟨hb, by omega, by omega⟩

theorem fn92 : FnOk Tryz.prog 92 26 [4] (bodyOf Tryz.f92) := ⟨Tryz.f92, Tryz.func92, by kernel_rfl, by decide, by kernel_rfl, by kernel_rfl⟩
theorem s92 (s : SB) (most : Int) : MSpec Tryz.prog 92 (fun k => [.loc k 0, .d (.int .i64 most)]) (srcS s) (srcS (cntS s most).2) (.d (.int .i64 (cntS s most).1)) := by
 refine MSpec.of fn92 (fun _ => by simp) (fun _ => by first | exact srcS_lts _ _ | simp [SV.lts, SV.lt]) (fun _ => by first | trivial | simp [SV.lt, SV.lts]) (by first | rfl | simp [SV.ren, SV.rens]) fun o nk k hkn hM => ?_
 refine wr ?_
 refine ua ?_
 refine u_nil ?_
 refine wr ?_
 refine u_step (o_moveV (v := .loc _ _) rfl ?_)
 refine u_step (g_mcall (s142 s) hM rfl fun o3 hb3 hk3 => ?_)
 refine u_step (o_moveV (v := .tup _) rfl ?_)
 refine ue ?_
 refine ue ?_
 refine ua ?_
 refine ua ?_
 refine u_nil ?_
 refine WP.seq fun K4 hK4 => ?_
 refine wr ?_
 refine u_step (o_moveV (v := .loc _ _) rfl ?_)
 refine um ?_
 refine um ?_
 refine ub ?_
 refine um ?_
 apply gT
 · rfl
 · intro hg
   exact pm
 apply gT
 · rfl
 · intro hg; try simp only [hg, ct]; try simp only [hg, ct, Bt]
   exact pc th126 th3
 apply gT
 · rfl
 · intro hg
   exact pm
 apply gT
 · rfl
 · intro hg; try simp only [hg, ct]; try simp only [hg, ct, Bt]
   exact pb
 refine uA ?_
 refine u_step (g_mcall (s143 s (gP s).2 (rightS (gP s).1 most) (gP_len s).1) hb3 rfl fun o6 hb6 hk6 => ?_)
 refine uN ?_
 refine u_nil ?_
 refine wc (fun hc7 => ?_) (fun hc7 => ?_) <;> try simp only [Q0, Q1, Q2, Q3, Q4, Q5, Q6, Q7, Q8, ge_iff_le, gt_iff_lt] at hc7
 ·
  have ht := hc7
  try simp only [Bool.not_eq_true'] at ht
  refine wr ?_
  refine ua ?_
  refine u_nil ?_
  refine WP.ret ?_
  refine retM_ok rfl ?_ (by omega) hb6 (fun t ht => (hk6 t (by omega)).trans ((hk3 t (by omega))))
  rw [cntS_no ht]; rfl
 ·
  have ht := hc7
  try simp only [Bool.not_eq_false'] at ht
  refine WP.skip ?_
  refine hK4 _ ?_
  refine wr ?_
  refine um ?_
  refine uc th126 th3 ?_
  refine ua ?_
  refine u_nil ?_
  refine WP.ret ?_
  refine retM_ok rfl ?_ (by omega) hb6 (fun t ht => (hk6 t (by omega)).trans ((hk3 t (by omega))))
  rw [cntS_yes ht]; rfl

theorem fn179 : FnOk Tryz.prog 179 22 [2] (bodyOf Tryz.f179) := ⟨Tryz.f179, Tryz.func179, by kernel_rfl, by decide, by kernel_rfl, by kernel_rfl⟩
theorem s179 (s : SB) : MSpec Tryz.prog 179 (fun k => [.loc k 0]) (srcS s) (srcS (intS s).2) (.d (.int .i64 (intS s).1)) := by
 refine MSpec.of fn179 (fun _ => by simp) (fun _ => by first | exact srcS_lts _ _ | simp [SV.lts, SV.lt]) (fun _ => by first | trivial | simp [SV.lt, SV.lts]) (by first | rfl | simp [SV.ren, SV.rens]) fun o nk k hkn hM => ?_
 refine wr ?_
 refine ua ?_
 refine u_nil ?_
 refine wr ?_
 refine u_step (o_moveV (v := .loc _ _) rfl ?_)
 refine u_step (g_mcall (s142 s) hM rfl fun o3 hb3 hk3 => ?_)
 refine u_step (o_moveV (v := .tup _) rfl ?_)
 refine ue ?_
 refine ue ?_
 refine ua ?_
 refine ua ?_
 refine u_nil ?_
 refine WP.seq fun K4 hK4 => ?_
 refine wr ?_
 refine u_step (o_moveV (v := .loc _ _) rfl ?_)
 refine um ?_
 refine u_step (g_mcall (s143 s (gP s).2 true (gP_len s).1) hb3 rfl fun o6 hb6 hk6 => ?_)
 refine uN ?_
 refine u_nil ?_
 refine wc (fun hc7 => ?_) (fun hc7 => ?_) <;> try simp only [Q0, Q1, Q2, Q3, Q4, Q5, Q6, Q7, Q8, ge_iff_le, gt_iff_lt] at hc7
 ·
  have ht := hc7
  try simp only [Bool.not_eq_true'] at ht
  refine wr ?_
  refine ua ?_
  refine u_nil ?_
  refine WP.ret ?_
  refine retM_ok rfl ?_ (by omega) hb6 (fun t ht => (hk6 t (by omega)).trans ((hk3 t (by omega))))
  rw [intS_no ht]; rfl
 ·
  have ht := hc7
  try simp only [Bool.not_eq_false'] at ht
  refine WP.skip ?_
  refine hK4 _ ?_
  refine wr ?_
  refine um ?_
  refine u_step (o_bin_sh rfl rfl rfl ?_)
  refine uc th126 th3 ?_
  refine um ?_
  refine ub ?_
  refine uc th126 th3 ?_
  refine u_step (o_un rfl rfl ?_)
  refine ub ?_
  refine ua ?_
  refine u_nil ?_
  refine WP.ret ?_
  refine retM_ok rfl ?_ (by omega) hb6 (fun t ht => (hk6 t (by omega)).trans ((hk3 t (by omega))))
  rw [intS_yes ht]; exact congrArg (fun z => SV.d (.int .i64 z)) (zag_ok (gP_len s).2.1)

end Go.Proofs.YtpkcbdhjnnnkbaaGreat.Abs

set_option linter.unusedVariables false
set_option linter.unusedSimpArgs false
set_option maxRecDepth 10000
namespace Go.Proofs.YtpkcbdhjnnnkbaaGreat.Abs
open Go
theorem o_cv_sb {P : Program} {Θ : Tab} {K : SV → (Nat → Option AO) → Nat → Prop} {sl : Nat → SV} {o : Nat → Option AO} {nk e : Nat} {x : Operand} {i j je : TI} {src dst : Nat} {b : List UInt8} (hx : ev sl x = .d (.sl 1 (b.map encB))) (hi : Θ src = some i) (hik : i.k = .slice e) (he : Θ e = some je) (hek : je.k = .int .u8) (hj : Θ dst = some j) (hk : j.k = .str) (h : K (.d (.str b)) o nk) : vOp P Θ (.convert src dst x) ⟨sl, o, nk⟩ K := by
  refine Or.inl ?_
  show coOp Θ o src dst (ev sl x) (fun v => K v o nk)
  rw [hx]
  refine ⟨i, j, hi, hj, hk, ⟨e, je, hik, he, hek⟩, b.map encB, b, by simp [srcOf], ?_, h⟩
  exact byteL_bytesD b
theorem tx_end {n u : Nat} (h1 : u ≤ 4611686018427387904) (h2 : n ≤ 10) : IntKind.i64.wrap ((n : Int) + IntKind.i64.wrap (u : Int)) = ((n + u : Nat) : Int) := by
  rw [wrap_i64 (m := (u : Int)) (by omega) (by omega), wrap_i64 (by omega) (by omega)]; omega
theorem o_sl_bH {P : Program} {Θ : Tab} {K : SV → (Nat → Option AO) → Nat → Prop} {sl : Nat → SV} {o : Nat → Option AO} {nk : Nat} {x : Operand} {t e : Nat} {i j : TI} {b : List UInt8} {hi2 : Operand} {p : Nat} (hx : ev sl x = .d (.sl 1 (b.map encB))) (hhi : ev sl hi2 = .d (.int .i64 (p : Int))) (hi : Θ t = some i) (hk : i.k = .slice e) (hj : Θ e = some j) (hz : j.sz = 1) (hp : p ≤ b.length) (h : K (.d (.sl 1 ((b.take p).map encB))) o nk) : vOp P Θ (.slice t x none (some hi2) none) ⟨sl, o, nk⟩ K := by
  refine o_sl_sl (m := p) (p := 0) hx hi hk hj hz ?_ (by simp [bndO]) ?_
  · simp only [Option.map_some, bndO, hhi, bnd, List.length_map]
    rw [if_pos (by omega)]; simp
  · rw [List.drop_zero, ← List.map_take]; exact h
/-- The document's groups, read. -/
def grpS (s : SB) : Nat × SB := match rdG s.1 with
  | some (u, n) => (u, (s.1.drop n, s.2))
  | none => (0, (s.1, true))
theorem grpS_ok {s : SB} {u n : Nat} (h : rdG s.1 = some (u, n)) : grpS s = (u, (s.1.drop n, s.2)) := by unfold grpS; rw [h]
theorem grpS_no {s : SB} (h : rdG s.1 = none) : grpS s = (0, (s.1, true)) := by unfold grpS; rw [h]
theorem grpS_P (s : SB) (hb : s.2 = false) : (grpS s).1 = (gP s).1 ∧ ((grpS s).2.2 = true ↔ (gP s).2 = 0) ∧ ((grpS s).2.2 = false → (grpS s).2.1 = s.1.drop (gP s).2) ∧ (grpS s).1 < 18446744073709551616 := by
  have hv := (gP_len s).2.1
  cases h : rdG s.1 with
  | none => rw [grpS_no h, gP_no h]; simp
  | some p =>
    obtain ⟨u, n⟩ := p
    have h1 := gR_len 10 s.1 0 0 u n h
    rw [gP_ok hb h] at hv ⊢
    rw [grpS_ok h, hb]
    exact ⟨rfl, ⟨(fun h => by cases h), (fun h => by simp at h; omega)⟩, (fun _ => rfl), hv⟩
theorem cnt_bad {s : SB} {most : Int} (hb : s.2 = true) : cntS s most = (0, s) := by
  have h : takeS s (gP s).2 (rightS (gP s).1 most) = (false, (s.1, true)) := takeS_no (.inl hb)
  unfold cntS
  rw [h]
  obtain ⟨b, q⟩ := s
  simp at hb ⊢
  exact hb
theorem cnt_fail {s : SB} {most : Int} (hb : s.2 = false) (h : (grpS s).2.2 = true ∨ 4611686018427387904 < ((grpS s).1 : Int) ∨ most < IntKind.i64.wrap ((grpS s).1 : Int)) : cntS s most = (0, (s.1, true)) := by
  obtain ⟨h1, h2, h3, h4⟩ := grpS_P s hb
  have ht : takeS s (gP s).2 (rightS (gP s).1 most) = (false, (s.1, true)) := by
    refine takeS_no (.inr ?_)
    rcases h with h | h | h
    · exact .inl (h2.1 h)
    · rw [h1] at h; refine .inr ?_; simp only [rightS, Bool.and_eq_false_iff, decide_eq_false_iff_not]; omega
    · rw [h1] at h; refine .inr ?_; simp only [rightS, Bool.and_eq_false_iff, decide_eq_false_iff_not]; omega
  unfold cntS
  rw [ht]; rfl
theorem cnt_fine {s : SB} {most : Int} (hb : s.2 = false) (h : ¬ ((grpS s).2.2 = true ∨ 4611686018427387904 < ((grpS s).1 : Int) ∨ most < IntKind.i64.wrap ((grpS s).1 : Int))) : cntS s most = (IntKind.i64.wrap ((grpS s).1 : Int), (grpS s).2) := by
  obtain ⟨h1, h2, h3, h4⟩ := grpS_P s hb
  have hg : (grpS s).2.2 = false := by cases hq : (grpS s).2.2 with | true => exact absurd (.inl hq) h | false => rfl
  have hn : ¬ (gP s).2 = 0 := fun e => by rw [h2.2 e] at hg; cases hg
  have hr : rightS (gP s).1 most = true := by
    rw [h1] at h
    simp only [rightS, Bool.and_eq_true, decide_eq_true_eq]
    omega
  have ht : takeS s (gP s).2 (rightS (gP s).1 most) = (true, (s.1.drop (gP s).2, false)) := takeS_ok (by rw [hb, hr]; simp [hn])
  unfold cntS
  rw [ht, ← h1]
  have : (grpS s).2 = ((grpS s).2.1, (grpS s).2.2) := rfl
  rw [this, hg, h3 hg]; rfl

theorem fn107 : FnOk Tryz.prog 107 59 [4] (bodyOf Tryz.f107) := ⟨Tryz.f107, Tryz.func107, by kernel_rfl, by decide, by kernel_rfl, by kernel_rfl⟩
theorem s107 (s : SB) (most : Int) (hx : s.1.length ≤ 9223372036854775807) : MSpec Tryz.prog 107 (fun k => [.loc k 0, .d (.int .i64 most)]) (srcS s) (srcS (txtS s most).2) (.d (.str (txtS s most).1)) := by
 refine MSpec.of fn107 (fun _ => by simp) (fun _ => by first | exact srcS_lts _ _ | simp [SV.lts, SV.lt]) (fun _ => by first | trivial | simp [SV.lt, SV.lts]) (by first | rfl | simp [SV.ren, SV.rens]) fun o nk k hkn hM => ?_
 refine wr ?_
 refine u_step (o_assign (show _ = SV.d (.str []) from rfl) ?_)
 refine u_nil ?_
 refine wr ?_
 refine u_step (o_moveV (v := .loc _ _) rfl ?_)
 refine u_step (g_mcall (s142 s) hM rfl fun o3 hb3 hk3 => ?_)
 refine u_step (o_moveV (v := .tup _) rfl ?_)
 refine ue ?_
 refine ue ?_
 refine ua ?_
 refine ua ?_
 refine u_nil ?_
 refine WP.seq fun K4 hK4 => ?_
 refine wr ?_
 refine um ?_
 refine ub ?_
 refine um ?_
 apply gF
 · rfl
 · intro hg
   exact pm
 apply gF
 · rfl
 · intro hg; try simp only [hg, ct]; try simp only [hg, ct, Bt]
   exact pc th126 th3
 apply gF
 · rfl
 · intro hg
   exact pm
 apply gF
 · rfl
 · intro hg; try simp only [hg, ct]; try simp only [hg, ct, Bt]
   exact pb
 refine uO ?_
 refine um ?_
 apply gF
 · rfl
 · intro hg
   exact pm
 apply gF
 · rfl
 · intro hg; try simp only [hg, ct]; try simp only [hg, ct, Bt]
   exact pc th126 th3
 apply gF
 · rfl
 · intro hg
   refine o_moveV (v := .loc _ _) rfl ⟨rfl, rfl, rfl⟩
 apply gF
 · rfl
 · intro hg; try simp only [hg, ct]; try simp only [hg, ct, Bt]
   refine o_scall (s42 s hb3) rfl ⟨rfl, rfl, rfl⟩
 apply gF
 · rfl
 · intro hg
   exact pm
 apply gF
 · rfl
 · intro hg; try simp only [hg, ct]; try simp only [hg, ct, Bt]
   exact pb
 apply gF
 · rfl
 · intro hg; try simp only [hg, ct]; try simp only [hg, ct, Bt]
   exact pb
 refine uO ?_
 refine um ?_
 apply gF
 · rfl
 · intro hg
   exact pm
 apply gF
 · rfl
 · intro hg; try simp only [hg, ct]; try simp only [hg, ct, Bt]
   exact pb
 refine uO ?_
 refine u_nil ?_
 refine wc (fun hc6 => ?_) (fun hc6 => ?_) <;> try simp only [Q0, Q1, Q2, Q3, Q4, Q5, Q6, Q7, Q8, ge_iff_le, gt_iff_lt] at hc6
 ·
  have hz : txtBad s most = true := hc6
  have hr := txtS_no hz
  refine wr ?_
  refine u_step (o_moveV (v := .loc _ _) rfl ?_)
  refine u_step (g_mcall (s109 s) hb3 rfl fun o8 hb8 hk8 => ?_)
  refine u_nil ?_
  refine wr ?_
  refine u_step (o_assign (show _ = SV.d (.str []) from rfl) ?_)
  refine u_nil ?_
  refine WP.ret ?_
  refine retM_ok rfl ?_ (by omega) (by rw [hr]; exact hb8) (fun t ht => (hk8 t (by omega)).trans ((hk3 t (by omega))))
  rw [hr]; rfl
 ·
  have hz : txtBad s most = false := by have hq := hc6; exact (by simpa [txtBad] using hq)
  have hr := txtS_ok hz
  have hfit := txt_fits hx hz
  have hb := hfit.1
  have hend := congrArg (fun z => SV.d (.int .i64 z)) (tx_end (n := (gP s).2) hfit.2.2 (gP_len s).2.2)
  refine WP.skip ?_
  refine hK4 _ ?_
  refine wr ?_
  refine um ?_
  refine um ?_
  refine uc th126 th3 ?_
  refine ub ?_
  refine ua ?_
  refine u_nil ?_
  refine wr ?_
  refine u_step (o_moveV (v := .loc _ _) rfl ?_)
  refine u_step (o_nc rfl hb3 ?_)
  refine uf th102 th52 hb3 ?_
  refine ul th52 hb3 ?_
  refine um ?_
  refine um ?_
  refine u_step (o_sl_bLH (m := (gP s).2) (p := (gP s).2 + (gP s).1) rfl rfl hend th52 rfl th5 rfl (by omega) hfit.2.1 ?_)
  refine u_step (o_cv_sb rfl th52 rfl th5 rfl th9 rfl ?_)
  refine ua ?_
  refine u_nil ?_
  refine wr ?_
  refine u_step (o_moveV (v := .loc _ _) rfl ?_)
  refine u_step (o_moveV (v := .loc _ _) rfl ?_)
  refine u_step (o_nc rfl hb3 ?_)
  refine uf th102 th52 hb3 ?_
  refine ul th52 hb3 ?_
  refine um ?_
  refine u_step (o_sl_bL (m := (gP s).2 + (gP s).1) rfl hend th52 rfl th5 rfl hfit.2.1 ?_)
  refine u_step (o_nc rfl hb3 ?_)
  refine uf th102 th52 hb3 ?_
  refine u_step0 (g_st rfl rfl rfl th52 rfl hb3 (by simp) fun o13 hb13 hk13 => ?_)
  refine u_nil ?_
  refine wr ?_
  refine um ?_
  refine ua ?_
  refine u_nil ?_
  refine WP.ret ?_
  refine retM_ok rfl ?_ (by omega) (by rw [hr]; have h := hb13; simp only [srcS, hb] at h; exact h) (fun t ht => (hk13 t (by omega)).trans ((hk3 t (by omega))))
  rw [hr]; rfl

theorem fn43 : FnOk Tryz.prog 43 12 [2] (bodyOf Tryz.f43) := ⟨Tryz.f43, Tryz.func43, by kernel_rfl, by decide, by kernel_rfl, by kernel_rfl⟩
theorem s43 {o : Nat → Option AO} {nk k : Nat} (s : SB) (hM : o k = some (.box (srcS s))) : Spec Tryz.prog 43 [.loc k 0] o nk (fun r' o' nk' => r' = .d (.int .i64 (leftS s : Nat)) ∧ o' = o ∧ nk' = nk) := by
 refine Spec.pure (fun _ => trivial) rfl (Spec.of_body fn43 (by simp) ?_)
 refine wr ?_
 refine ua ?_
 refine u_nil ?_
 refine WP.seq fun K2 hK2 => ?_
 refine wr ?_
 refine u_step (o_moveV (v := .loc _ _) rfl ?_)
 refine u_step (o_nc rfl hM ?_)
 refine uf th63 th4 hM ?_
 refine ul th4 hM ?_
 refine u_nil ?_
 refine wc (fun hc4 => ?_) (fun hc4 => ?_) <;> try simp only [Q0, Q1, Q2, Q3, Q4, Q5, Q6, Q7, Q8, ge_iff_le, gt_iff_lt] at hc4
 ·
  refine wr ?_
  refine ua ?_
  refine u_nil ?_
  refine WP.ret ?_
  refine ret_ok rfl ?_ (by omega) (fun _ _ => rfl)
  -- ret 1
  refine congrArg (D.int .i64) ?_
  have hq := hc4
  simp [leftS, hq]
 ·
  refine WP.skip ?_
  refine hK2 _ ?_
  refine wr ?_
  refine u_step (o_moveV (v := .loc _ _) rfl ?_)
  refine u_step (o_nc rfl hM ?_)
  refine uf th63 th52 hM ?_
  refine ul th52 hM ?_
  refine un th52 ?_
  refine ua ?_
  refine u_nil ?_
  refine WP.ret ?_
  refine ret_ok rfl ?_ (by omega) (fun _ _ => rfl)
  -- ret 2
  refine congrArg (D.int .i64) ?_
  have hq := hc4
  simp [leftS, hq]

theorem fn95 : FnOk Tryz.prog 95 35 [2] (bodyOf Tryz.f95) := ⟨Tryz.f95, Tryz.func95, by kernel_rfl, by decide, by kernel_rfl, by kernel_rfl⟩
theorem s95 (s : SB) : MSpec Tryz.prog 95 (fun k => [.loc k 0]) (srcS s) (srcS (rdByte s).2) (.d (.int .i64 (rdByte s).1)) := by
 refine MSpec.of fn95 (fun _ => by simp) (fun _ => by first | exact srcS_lts _ _ | simp [SV.lts, SV.lt]) (fun _ => by first | trivial | simp [SV.lt, SV.lts]) (by first | rfl | simp [SV.ren, SV.rens]) fun o nk k hkn hM => ?_
 refine wr ?_
 refine ua ?_
 refine u_nil ?_
 refine WP.seq fun K2 hK2 => ?_
 refine wr ?_
 refine u_step (o_moveV (v := .loc _ _) rfl ?_)
 refine u_step (o_nc rfl hM ?_)
 refine uf th63 th4 hM ?_
 refine ul th4 hM ?_
 refine um ?_
 apply gF
 · rfl
 · intro hg
   refine o_moveV (v := .loc _ _) rfl ⟨rfl, rfl, rfl⟩
 apply gF
 · rfl
 · intro hg; try simp only [hg, ct]; try simp only [hg, ct, Bt]
   refine o_nc rfl hM ⟨rfl, rfl, rfl⟩
 apply gF
 · rfl
 · intro hg; try simp only [hg, ct]; try simp only [hg, ct, Bt]
   exact pf th63 th52 hM
 apply gF
 · rfl
 · intro hg; try simp only [hg, ct]; try simp only [hg, ct, Bt]
   exact pl th52 hM
 apply gF
 · rfl
 · intro hg; try simp only [hg, ct]; try simp only [hg, ct, Bt]
   exact pn th52
 apply gF
 · rfl
 · intro hg; try simp only [hg, ct]; try simp only [hg, ct, Bt]
   exact pb
 refine uO ?_
 refine u_nil ?_
 refine wc (fun hc4 => ?_) (fun hc4 => ?_) <;> try simp only [Q0, Q1, Q2, Q3, Q4, Q5, Q6, Q7, Q8, ge_iff_le, gt_iff_lt] at hc4
 ·
  have hz : s.2 = true ∨ s.1 = [] := by
    have hq := hc4
    simp at hq
    exact hq
  have hr := rdByte_no hz
  refine wr ?_
  refine u_step (o_moveV (v := .loc _ _) rfl ?_)
  refine u_step (o_nc rfl hM ?_)
  refine uf th63 th4 hM ?_
  refine u_step0 (g_st rfl rfl rfl th4 rfl hM (by simp) fun o6 hb6 hk6 => ?_)
  refine u_nil ?_
  refine wr ?_
  refine ua ?_
  refine u_nil ?_
  refine WP.ret ?_
  refine retM_ok rfl ?_ (by omega) (by rw [hr]; exact hb6) (fun t ht => (hk6 t (by omega)))
  rw [hr]; rfl
 ·
  have hq := hc4
  simp at hq
  have hb : s.2 = false := hq.1
  have hl : 0 < s.1.length := List.length_pos_iff.2 hq.2
  have hr := rdByte_ok hb hl
  refine WP.skip ?_
  refine hK2 _ ?_
  refine wr ?_
  refine u_step (o_moveV (v := .loc _ _) rfl ?_)
  refine u_step (o_nc rfl hM ?_)
  refine uf th63 th52 hM ?_
  refine ul th52 hM ?_
  refine u_step (o_ia_map rfl (show _ = SV.d (.int .i64 ((0 : Nat) : Int)) from rfl) th52 rfl th5 rfl hl ?_)
  refine uL th5 ?_
  refine uc th5 th3 ?_
  refine ua ?_
  refine u_nil ?_
  refine wr ?_
  refine u_step (o_moveV (v := .loc _ _) rfl ?_)
  refine u_step (o_moveV (v := .loc _ _) rfl ?_)
  refine u_step (o_nc rfl hM ?_)
  refine uf th63 th52 hM ?_
  refine ul th52 hM ?_
  refine u_step (o_sl_bL (m := 1) rfl rfl th52 rfl th5 rfl (by omega) ?_)
  refine u_step (o_nc rfl hM ?_)
  refine uf th63 th52 hM ?_
  refine u_step0 (g_st rfl rfl rfl th52 rfl hM (by simp) fun o10 hb10 hk10 => ?_)
  refine u_nil ?_
  refine wr ?_
  refine um ?_
  refine ua ?_
  refine u_nil ?_
  refine WP.ret ?_
  refine retM_ok rfl ?_ (by omega) (by rw [hr]; have h := hb10; simp only [srcS, hb] at h; exact h) (fun t ht => (hk10 t (by omega)))
  rw [hr]; exact congrArg (fun z => SV.d (.int .i64 z)) (byte_i64 _)

end Go.Proofs.YtpkcbdhjnnnkbaaGreat.Abs

set_option linter.unusedVariables false
set_option linter.unusedSimpArgs false
set_option maxRecDepth 10000
namespace Go.Proofs.YtpkcbdhjnnnkbaaGreat.Abs
open Go
theorem int_bad {s : SB} (hb : s.2 = true) : intS s = (0, s) := by
  have h : takeS s (gP s).2 true = (false, (s.1, true)) := takeS_no (.inl hb)
  unfold intS
  rw [h]
  obtain ⟨b, q⟩ := s
  simp at hb ⊢
  exact hb
theorem int_fine {s : SB} (hb : s.2 = false) : intS s = (zagI (grpS s).1, (grpS s).2) := by
  obtain ⟨h1, h2, h3, h4⟩ := grpS_P s hb
  unfold intS
  cases h : rdG s.1 with
  | none =>
    have ht : takeS s (gP s).2 true = (false, (s.1, true)) := takeS_no (.inr (.inl (by rw [gP_no h])))
    have hz : zagI 0 = 0 := by decide
    rw [ht, grpS_no h]
    simp only [hz]
    simp
  | some p =>
    obtain ⟨u, n⟩ := p
    have hl := gR_len 10 s.1 0 0 u n h
    have ht : takeS s (gP s).2 true = (true, (s.1.drop n, false)) := by rw [gP_ok hb h]; exact takeS_ok (by rw [hb]; simp; omega)
    rw [ht, grpS_ok h, gP_ok hb h, hb]; rfl
theorem zag_even {u : Nat} (h : u < 18446744073709551616) (hq : ((u : Int).tmod 2 == 0) = true) : IntKind.i64.wrap (IntKind.u64.wrap ((u : Int).tdiv 2)) = zagI u := by
  rw [beq_iff_eq, Int.tmod_eq_emod_of_nonneg (by omega)] at hq
  rw [Int.tdiv_eq_ediv_of_nonneg (by omega), show (u : Int) / 2 = ((u / 2 : Nat) : Int) by omega, wrap_u64n (by omega), wrap_i64 (by omega) (by omega), zagI, if_pos (by omega)]
theorem zag_odd {u : Nat} (h : u < 18446744073709551616) (hq : ((u : Int).tmod 2 == 0) = false) : IntKind.i64.wrap (IntKind.i64.wrap (0 - IntKind.i64.wrap (IntKind.u64.wrap ((u : Int).tdiv 2))) - 1) = zagI u := by
  rw [beq_eq_false_iff_ne, ne_eq, Int.tmod_eq_emod_of_nonneg (by omega)] at hq
  rw [Int.tdiv_eq_ediv_of_nonneg (by omega), show (u : Int) / 2 = ((u / 2 : Nat) : Int) by omega, wrap_u64n (by omega), wrap_i64 (m := ((u / 2 : Nat) : Int)) (by omega) (by omega), wrap_i64 (m := 0 - ((u / 2 : Nat) : Int)) (by omega) (by omega), wrap_i64 (by omega) (by omega), zagI, if_neg (by omega)]
  omega
theorem gR_none {b : List UInt8} {i u : Nat} (h : ¬ (i < 10 ∧ i < b.length)) : gR (10 - i) b i u = none := gR_end (by omega)
/-- A text, as the document reads it. -/
theorem txt_fail {s : SB} {most : Int} (hx : s.1.length ≤ 4611686018427387904) (h : (cntS s most).2.2 = true ∨ ((cntS s most).2.1.length : Int) < (cntS s most).1) : txtS s most = ([], (s.1, true)) := by
  have hl := gP_len s
  cases hb : s.2 with
  | true => exact txtS_no (by simp [txtBad, gP_bad hb])
  | false =>
    have hls : leftS s = s.1.length := by simp [leftS, hb]
    have hl1 := hl.1 hb
    refine txtS_no ?_
    unfold txtBad
    simp only [Bool.or_eq_true, decide_eq_true_eq, beq_iff_eq]
    rw [hls, wrap_i64 (m := (s.1.length : Int) - ((gP s).2 : Int)) (by omega) (by omega)]
    cases ht : (takeS s (gP s).2 (rightS (gP s).1 most)).1 with
    | false =>
      have : (gP s).2 = 0 ∨ rightS (gP s).1 most = false := by
        by_cases hz : s.2 = true ∨ (gP s).2 = 0 ∨ rightS (gP s).1 most = false
        · rcases hz with hz | hz
          · rw [hb] at hz; cases hz
          · exact hz
        · rw [takeS_ok hz] at ht; cases ht
      rcases this with h0 | h0
      · exact .inr (by omega)
      · simp only [rightS, Bool.and_eq_false_iff, decide_eq_false_iff_not] at h0
        rcases h0 with h0 | h0
        · exact .inl (.inl (.inl (by omega)))
        · exact .inl (.inl (.inr (by omega)))
    | true =>
      have hz : ¬ (s.2 = true ∨ (gP s).2 = 0 ∨ rightS (gP s).1 most = false) := fun hz => by rw [takeS_no hz] at ht; cases ht
      have e : cntS s most = (IntKind.i64.wrap ((gP s).1 : Int), (s.1.drop (gP s).2, false)) := by
        unfold cntS; rw [takeS_ok hz]; rfl
      rw [e] at h
      simp only [Bool.false_eq_true, false_or, List.length_drop] at h
      exact .inl (.inr (by omega))
theorem txt_fine {s : SB} {most : Int} (hx : s.1.length ≤ 4611686018427387904) (h : ¬ ((cntS s most).2.2 = true ∨ ((cntS s most).2.1.length : Int) < (cntS s most).1)) :
    (cntS s most).1 = (((gP s).1 : Nat) : Int) ∧ (gP s).1 ≤ (cntS s most).2.1.length ∧ (cntS s most).2.2 = false ∧ txtS s most = ((cntS s most).2.1.take (gP s).1, ((cntS s most).2.1.drop (gP s).1, false)) := by
  have hl := gP_len s
  have hb : s.2 = false := by
    cases hb : s.2 with
    | false => rfl
    | true => rw [cnt_bad hb] at h; exact absurd (.inl hb) h
  have hls : leftS s = s.1.length := by simp [leftS, hb]
  have hl1 := hl.1 hb
  have hz : ¬ (s.2 = true ∨ (gP s).2 = 0 ∨ rightS (gP s).1 most = false) := fun hz => by
    refine h (.inl ?_)
    unfold cntS; rw [takeS_no hz]
  have e : cntS s most = (IntKind.i64.wrap ((gP s).1 : Int), (s.1.drop (gP s).2, false)) := by
    unfold cntS; rw [takeS_ok hz]; rfl
  have hr : rightS (gP s).1 most = true := by cases hq : rightS (gP s).1 most with | true => rfl | false => exact absurd (.inr (.inr hq)) hz
  simp only [rightS, Bool.and_eq_true, decide_eq_true_eq] at hr
  rw [e] at h ⊢
  simp only [Bool.false_eq_true, false_or, List.length_drop, wrap_i64 (m := ((gP s).1 : Int)) (by omega) (by omega)] at h hr ⊢
  refine ⟨trivial, by omega, trivial, ?_⟩
  have hn : ¬ (gP s).2 = 0 := fun e => hz (.inr (.inl e))
  have hB : txtBad s most = false := by
    unfold txtBad
    rw [hls, wrap_i64 (m := (s.1.length : Int) - ((gP s).2 : Int)) (by omega) (by omega), wrap_i64 (m := ((gP s).1 : Int)) (by omega) (by omega)]
    simp only [Bool.or_eq_false_iff, decide_eq_false_iff_not, beq_eq_false_iff_ne, ne_eq]
    omega
  rw [txtS_ok hB, List.drop_drop, List.take_drop]

theorem fn144 : FnOk Tryz.prog 144 82 [2] (bodyOf Tryz.f144) := ⟨Tryz.f144, Tryz.func144, by kernel_rfl, by decide, by kernel_rfl, by kernel_rfl⟩
theorem s144 (s : SB) : MSpec Tryz.prog 144 (fun k => [.loc k 0]) (srcS s) (srcS (grpS s).2) (.d (.int .u64 ((grpS s).1 : Nat))) := by
 refine MSpec.of fn144 (fun _ => by simp) (fun _ => by first | exact srcS_lts _ _ | simp [SV.lts, SV.lt]) (fun _ => by first | trivial | simp [SV.lt, SV.lts]) (by first | rfl | simp [SV.ren, SV.rens]) fun o nk k hkn hM => ?_
 refine wr ?_
 refine ua ?_
 refine u_nil ?_
 refine wr ?_
 refine ua ?_
 refine u_nil ?_
 refine WP.seq fun K3 hK3 => ?_
 refine wr ?_
 refine ua ?_
 refine u_nil ?_
 refine WP.block ?_
 refine WP.loopL (ι := Nat × Nat) (fun ⟨i, u⟩ => ⟨al [(0, .loc k 0), (3, .d (.int .u64 (u : Nat))), (4, .d (.int .i64 i))], o, nk⟩) (fun ⟨i, u⟩ => u < 2 ^ (7 * i) ∧ rdG s.1 = gR (10 - i) s.1 i u) (fun ⟨i, u⟩ => 10 - i) (fun ⟨i, u⟩ hA => ?_) ⟨0, 0⟩ ?_ ?_
 ·
  obtain ⟨hu, hg⟩ := hA
  refine WP.seq fun K5 hK5 => ?_
  refine wr ?_
  refine um ?_
  refine ub ?_
  refine um ?_
  apply gT
  · rfl
  · intro hg
    exact pm
  apply gT
  · rfl
  · intro hg
    refine o_moveV (v := .loc _ _) rfl ⟨rfl, rfl, rfl⟩
  apply gT
  · rfl
  · intro hg; try simp only [hg, ct]; try simp only [hg, ct, Bt]
    refine o_nc rfl hM ⟨rfl, rfl, rfl⟩
  apply gT
  · rfl
  · intro hg; try simp only [hg, ct]; try simp only [hg, ct, Bt]
    exact pf th63 th52 hM
  apply gT
  · rfl
  · intro hg; try simp only [hg, ct]; try simp only [hg, ct, Bt]
    exact pl th52 hM
  apply gT
  · rfl
  · intro hg; try simp only [hg, ct]; try simp only [hg, ct, Bt]
    exact pn th52
  apply gT
  · rfl
  · intro hg; try simp only [hg, ct]; try simp only [hg, ct, Bt]
    exact pb
  refine uA ?_
  refine u_nil ?_
  refine wc (fun hc7 => ?_) (fun hc7 => ?_) <;> try simp only [Q0, Q1, Q2, Q3, Q4, Q5, Q6, Q7, Q8, ge_iff_le, gt_iff_lt] at hc7
  ·
   have hi10 : i < 10 ∧ i < s.1.length := by have hq := hc7; (try simp at hq); omega
   have hl := hi10.2
   have hga := gR_at (b := s.1) (i := i) (u := u) hi10.1 hl
   have hi9 : i ≤ 9 := by omega
   refine WP.skip ?_
   refine hK5 _ ?_
   refine WP.seq fun K8 hK8 => ?_
   refine WP.block ?_
   refine wr ?_
   refine u_step (o_moveV (v := .loc _ _) rfl ?_)
   refine u_step (o_nc rfl hM ?_)
   refine uf th63 th52 hM ?_
   refine ul th52 hM ?_
   refine um ?_
   refine u_step (o_ia_map rfl rfl th52 rfl th5 rfl hl ?_)
   refine uL th5 ?_
   refine ub ?_
   refine uc th5 th126 ?_
   refine ua ?_
   refine u_nil ?_
   refine WP.seq fun K10 hK10 => ?_
   refine wr ?_
   refine um ?_
   refine ub ?_
   refine um ?_
   apply gT
   · rfl
   · intro hg
     refine o_moveV (v := .loc _ _) rfl ⟨rfl, rfl, rfl⟩
   apply gT
   · rfl
   · intro hg; try simp only [hg, ct]; try simp only [hg, ct, Bt]
     refine o_nc rfl hM ⟨rfl, rfl, rfl⟩
   apply gT
   · rfl
   · intro hg; try simp only [hg, ct]; try simp only [hg, ct, Bt]
     exact pf th63 th52 hM
   apply gT
   · rfl
   · intro hg; try simp only [hg, ct]; try simp only [hg, ct, Bt]
     exact pl th52 hM
   apply gT
   · rfl
   · intro hg
     exact pm
   apply gT
   · rfl
   · intro hg; try simp only [hg, ct]; try simp only [hg, ct, Bt]
     refine o_ia_map rfl rfl th52 rfl th5 rfl hl ⟨rfl, rfl, rfl⟩
   apply gT
   · rfl
   · intro hg; try simp only [hg, ct]; try simp only [hg, ct, Bt]
     exact pL th5
   apply gT
   · rfl
   · intro hg; try simp only [hg, ct]; try simp only [hg, ct, Bt]
     exact pb
   refine uA ?_
   refine um ?_
   apply gF
   · rfl
   · intro hg
     exact pm
   apply gF
   · rfl
   · intro hg; try simp only [hg, ct]; try simp only [hg, ct, Bt]
     exact pb
   apply gF
   · rfl
   · intro hg; try simp only [hg, ct]; try simp only [hg, ct, Bt]
     exact pm
   apply u_guard
   · exact GC.ct _ _
   · intro hg
     refine o_moveV (v := .loc _ _) rfl ⟨rfl, rfl, rfl⟩
   apply u_guard
   · exact GC.ct _ _
   · intro hg; try simp only [hg, ct]; try simp only [hg, ct, Bt]
     refine o_nc rfl hM ⟨rfl, rfl, rfl⟩
   apply u_guard
   · exact GC.ct _ _
   · intro hg; try simp only [hg, ct]; try simp only [hg, ct, Bt]
     exact pf th63 th52 hM
   apply u_guard
   · exact GC.ct _ _
   · intro hg; try simp only [hg, ct]; try simp only [hg, ct, Bt]
     exact pl th52 hM
   apply u_guard
   · exact GC.ct _ _
   · intro hg
     exact pm
   apply u_guard
   · exact GC.ct _ _
   · intro hg; try simp only [hg, ct]; try simp only [hg, ct, Bt]
     refine o_ia_map rfl rfl th52 rfl th5 rfl hl ⟨rfl, rfl, rfl⟩
   apply u_guard
   · exact GC.ct _ _
   · intro hg; try simp only [hg, ct]; try simp only [hg, ct, Bt]
     exact pL th5
   apply u_guard
   · exact GC.ct _ _
   · intro hg; try simp only [hg, ct]; try simp only [hg, ct, Bt]
     exact pb
   apply gF
   · rfl
   · intro hg; try simp only [hg, ct]; try simp only [hg, ct, Bt]
     exact pA
   refine uO ?_
   refine u_nil ?_
   refine wc (fun hc12 => ?_) (fun hc12 => ?_) <;> try simp only [Q0, Q1, Q2, Q3, Q4, Q5, Q6, Q7, Q8, ge_iff_le, gt_iff_lt] at hc12
   ·
    have hbad : (i = 9 ∧ 1 < (s.1[i]).toNat) ∨ (0 < i ∧ (s.1[i]).toNat = 0) := by
      have hq := hc12
      generalize (s.1[i]).toNat = c at hq ⊢
      (try simp at hq); omega
    have hr := grpS_no (hg.trans (hga.trans (if_pos hbad)))
    refine WP.exit ?_
    refine hK3 _ ?_
    refine wr ?_
    refine u_step (o_moveV (v := .loc _ _) rfl ?_)
    refine u_step (o_nc rfl hM ?_)
    refine uf th63 th4 hM ?_
    refine u_step0 (g_st rfl rfl rfl th4 rfl hM (by simp) fun o14 hb14 hk14 => ?_)
    refine u_nil ?_
    refine wr ?_
    refine ua ?_
    refine u_nil ?_
    refine WP.ret ?_
    refine retM_ok rfl ?_ (by omega) (by rw [hr]; exact hb14) (fun t ht => (hk14 t (by omega)))
    rw [hr]; rfl
   ·
    have hbad : ¬ ((i = 9 ∧ 1 < (s.1[i]).toNat) ∨ (0 < i ∧ (s.1[i]).toNat = 0)) := by
      have hq := hc12
      generalize (s.1[i]).toNat = c at hq ⊢
      (try simp at hq); omega
    refine WP.skip ?_
    refine hK10 _ ?_
    refine wr ?_
    refine um ?_
    refine um ?_
    refine um ?_
    refine ub ?_
    refine u_step (o_bin_sh rfl rfl (shG hi9) ?_)
    refine ub ?_
    refine ua ?_
    refine u_nil ?_
    refine wr ?_
    refine u_step (o_moveV (v := .loc _ _) rfl ?_)
    refine u_step (o_nc rfl hM ?_)
    refine uf th63 th52 hM ?_
    refine ul th52 hM ?_
    refine um ?_
    refine u_step (o_ia_map rfl rfl th52 rfl th5 rfl hl ?_)
    refine uL th5 ?_
    refine ub ?_
    refine u_nil ?_
    refine wc (fun hc18 => ?_) (fun hc18 => ?_) <;> try simp only [Q0, Q1, Q2, Q3, Q4, Q5, Q6, Q7, Q8, ge_iff_le, gt_iff_lt] at hc18
    ·
     have h128 : (s.1[i]).toNat < 128 := by have hq := hc18; (try simp at hq); omega
     have hr := grpS_ok (hg.trans (hga.trans ((if_neg hbad).trans (if_pos h128))))
     have hi1 := wrap_succ (i := i) (by omega)
     refine wr ?_
     refine u_step (o_moveV (v := .loc _ _) rfl ?_)
     refine u_step (o_moveV (v := .loc _ _) rfl ?_)
     refine u_step (o_nc rfl hM ?_)
     refine uf th63 th52 hM ?_
     refine ul th52 hM ?_
     refine um ?_
     refine ub ?_
     refine u_step (o_sl_bL (m := i + 1) rfl (congrArg (fun z => SV.d (.int .i64 z)) hi1) th52 rfl th5 rfl (by omega) ?_)
     refine u_step (o_nc rfl hM ?_)
     refine uf th63 th52 hM ?_
     refine u_step0 (g_st rfl rfl rfl th52 rfl hM (by simp) fun o20 hb20 hk20 => ?_)
     refine u_nil ?_
     refine wr ?_
     refine um ?_
     refine ua ?_
     refine u_nil ?_
     refine WP.ret ?_
     refine retM_ok rfl ?_ (by omega) (by rw [hr]; exact hb20) (fun t ht => (hk20 t (by omega)))
     rw [hr]
     exact congrArg (fun z => SV.d (.int .u64 z)) (add_step hu hi9 (fun h => by omega))
    ·
     have h128 : ¬ (s.1[i]).toNat < 128 := by have hq := hc18; (try simp at hq); omega
     have hgn := hga.trans ((if_neg hbad).trans (if_neg h128))
     refine WP.skip ?_
     refine hK8 _ ?_
     refine WP.reg tabOk rfl ?_
     refine um ?_
     refine ub ?_
     refine ua ?_
     refine u_nil ?_
     -- back
     refine ⟨⟨i + 1, u + (s.1[i]).toNat % 128 * 2 ^ (7 * i)⟩, ⟨gq_next hu (by omega), hg.trans hgn⟩, by simp only; omega, ?_⟩
     refine Le.al ?_
     simp only [List.forall_mem_cons]
     refine ⟨rfl, ?_, cnt (by omega), by simp⟩
     exact congrArg (fun z => SV.d (.int .u64 z)) (add_step hu hi9 (fun h => by omega))
  ·
   have hie : ¬ (i < 10 ∧ i < s.1.length) := by have hq := hc7; (try simp at hq); omega
   have hr := grpS_no (hg.trans (gR_none hie))
   refine WP.exit ?_
   refine hK3 _ ?_
   refine wr ?_
   refine u_step (o_moveV (v := .loc _ _) rfl ?_)
   refine u_step (o_nc rfl hM ?_)
   refine uf th63 th4 hM ?_
   refine u_step0 (g_st rfl rfl rfl th4 rfl hM (by simp) fun o23 hb23 hk23 => ?_)
   refine u_nil ?_
   refine wr ?_
   refine ua ?_
   refine u_nil ?_
   refine WP.ret ?_
   refine retM_ok rfl ?_ (by omega) (by rw [hr]; exact hb23) (fun t ht => (hk23 t (by omega)))
   rw [hr]; rfl
 ·
  exact ⟨by simp, rfl⟩
 ·
  refine Le.al ?_
  simp only [List.forall_mem_cons]
  exact ⟨rfl, rfl, rfl, by simp⟩

theorem fn94 : FnOk Tryz.prog 94 40 [4] (bodyOf Tryz.f94) := ⟨Tryz.f94, Tryz.func94, by kernel_rfl, by decide, by kernel_rfl, by kernel_rfl⟩
theorem s94 (s : SB) (most : Int) : MSpec Tryz.prog 94 (fun k => [.loc k 0, .d (.int .i64 most)]) (srcS s) (srcS (cntS s most).2) (.d (.int .i64 (cntS s most).1)) := by
 refine MSpec.of fn94 (fun _ => by simp) (fun _ => by first | exact srcS_lts _ _ | simp [SV.lts, SV.lt]) (fun _ => by first | trivial | simp [SV.lt, SV.lts]) (by first | rfl | simp [SV.ren, SV.rens]) fun o nk k hkn hM => ?_
 refine wr ?_
 refine ua ?_
 refine u_nil ?_
 refine WP.seq fun K2 hK2 => ?_
 refine wr ?_
 refine u_step (o_moveV (v := .loc _ _) rfl ?_)
 refine u_step (o_nc rfl hM ?_)
 refine uf th63 th4 hM ?_
 refine ul th4 hM ?_
 refine u_nil ?_
 refine wc (fun hc4 => ?_) (fun hc4 => ?_) <;> try simp only [Q0, Q1, Q2, Q3, Q4, Q5, Q6, Q7, Q8, ge_iff_le, gt_iff_lt] at hc4
 ·
  have hb : s.2 = true := hc4
  have hr := cnt_bad (most := most) hb
  refine wr ?_
  refine ua ?_
  refine u_nil ?_
  refine WP.ret ?_
  refine retM_ok rfl ?_ (by omega) (by rw [hr]; exact hM) (fun _ _ => rfl)
  rw [hr]; rfl
 ·
  have hb : s.2 = false := by simpa using hc4
  refine WP.skip ?_
  refine hK2 _ ?_
  refine wr ?_
  refine u_step (o_moveV (v := .loc _ _) rfl ?_)
  refine u_step (o_nc rfl hM ?_)
  refine uf th63 th52 hM ?_
  refine ul th52 hM ?_
  refine ua ?_
  refine u_nil ?_
  refine wr ?_
  refine u_step (o_moveV (v := .loc _ _) rfl ?_)
  refine u_step (g_mcall (s144 s) hM rfl fun o8 hb8 hk8 => ?_)
  refine ua ?_
  refine u_nil ?_
  refine WP.seq fun K9 hK9 => ?_
  refine wr ?_
  refine u_step (o_moveV (v := .loc _ _) rfl ?_)
  refine u_step (o_nc rfl hb8 ?_)
  refine uf th63 th4 hb8 ?_
  refine ul th4 hb8 ?_
  refine um ?_
  apply gF
  · rfl
  · intro hg
    exact pm
  apply gF
  · rfl
  · intro hg; try simp only [hg, ct]; try simp only [hg, ct, Bt]
    exact pb
  refine uO ?_
  refine um ?_
  apply gF
  · rfl
  · intro hg
    exact pm
  apply gF
  · rfl
  · intro hg; try simp only [hg, ct]; try simp only [hg, ct, Bt]
    exact pc th126 th3
  apply gF
  · rfl
  · intro hg
    exact pm
  apply gF
  · rfl
  · intro hg; try simp only [hg, ct]; try simp only [hg, ct, Bt]
    exact pb
  refine uO ?_
  refine u_nil ?_
  refine wc (fun hc11 => ?_) (fun hc11 => ?_) <;> try simp only [Q0, Q1, Q2, Q3, Q4, Q5, Q6, Q7, Q8, ge_iff_le, gt_iff_lt] at hc11
  ·
   have hz : (grpS s).2.2 = true ∨ 4611686018427387904 < ((grpS s).1 : Int) ∨ most < IntKind.i64.wrap ((grpS s).1 : Int) := by have hq := hc11; simp [or_assoc] at hq; exact hq
   have hr := cnt_fail hb hz
   refine wr ?_
   refine u_step (o_moveV (v := .loc _ _) rfl ?_)
   refine u_step (o_moveV (v := .loc _ _) rfl ?_)
   refine um ?_
   refine u_step (o_nc rfl hb8 ?_)
   refine uf th63 th52 hb8 ?_
   refine u_step0 (g_st rfl rfl rfl th52 rfl hb8 (by simp) fun o13 hb13 hk13 => ?_)
   refine u_step (o_nc rfl hb13 ?_)
   refine uf th63 th4 hb13 ?_
   refine u_step0 (g_st rfl rfl rfl th4 rfl hb13 (by simp) fun o14 hb14 hk14 => ?_)
   refine u_nil ?_
   refine wr ?_
   refine ua ?_
   refine u_nil ?_
   refine WP.ret ?_
   refine retM_ok rfl ?_ (by omega) (by rw [hr]; exact hb14) (fun t ht => (hk14 t (by omega)).trans ((hk13 t (by omega)).trans ((hk8 t (by omega)))))
   rw [hr]; rfl
  ·
   have hz : ¬ ((grpS s).2.2 = true ∨ 4611686018427387904 < ((grpS s).1 : Int) ∨ most < IntKind.i64.wrap ((grpS s).1 : Int)) := by have hq := hc11; simp at hq ⊢; grind
   have hr := cnt_fine hb hz
   refine WP.skip ?_
   refine hK9 _ ?_
   refine wr ?_
   refine um ?_
   refine uc th126 th3 ?_
   refine ua ?_
   refine u_nil ?_
   refine WP.ret ?_
   refine retM_ok rfl ?_ (by omega) (by rw [hr]; exact hb8) (fun t ht => (hk8 t (by omega)))
   rw [hr]; rfl

theorem fn171 : FnOk Tryz.prog 171 21 [2] (bodyOf Tryz.f171) := ⟨Tryz.f171, Tryz.func171, by kernel_rfl, by decide, by kernel_rfl, by kernel_rfl⟩
theorem s171 (s : SB) : MSpec Tryz.prog 171 (fun k => [.loc k 0]) (srcS s) (srcS (intS s).2) (.d (.int .i64 (intS s).1)) := by
 refine MSpec.of fn171 (fun _ => by simp) (fun _ => by first | exact srcS_lts _ _ | simp [SV.lts, SV.lt]) (fun _ => by first | trivial | simp [SV.lt, SV.lts]) (by first | rfl | simp [SV.ren, SV.rens]) fun o nk k hkn hM => ?_
 refine wr ?_
 refine ua ?_
 refine u_nil ?_
 refine WP.seq fun K2 hK2 => ?_
 refine wr ?_
 refine u_step (o_moveV (v := .loc _ _) rfl ?_)
 refine u_step (o_nc rfl hM ?_)
 refine uf th63 th4 hM ?_
 refine ul th4 hM ?_
 refine u_nil ?_
 refine wc (fun hc4 => ?_) (fun hc4 => ?_) <;> try simp only [Q0, Q1, Q2, Q3, Q4, Q5, Q6, Q7, Q8, ge_iff_le, gt_iff_lt] at hc4
 ·
  have hb : s.2 = true := hc4
  have hr := int_bad hb
  refine wr ?_
  refine ua ?_
  refine u_nil ?_
  refine WP.ret ?_
  refine retM_ok rfl ?_ (by omega) (by rw [hr]; exact hM) (fun _ _ => rfl)
  rw [hr]; rfl
 ·
  have hb : s.2 = false := by simpa using hc4
  have hr := int_fine hb
  have hv := (grpS_P s hb).2.2.2
  refine WP.skip ?_
  refine hK2 _ ?_
  refine wr ?_
  refine u_step (o_moveV (v := .loc _ _) rfl ?_)
  refine u_step (g_mcall (s144 s) hM rfl fun o7 hb7 hk7 => ?_)
  refine ua ?_
  refine u_nil ?_
  refine WP.seq fun K8 hK8 => ?_
  refine wr ?_
  refine um ?_
  refine ub ?_
  refine ub ?_
  refine u_nil ?_
  refine wc (fun hc10 => ?_) (fun hc10 => ?_) <;> try simp only [Q0, Q1, Q2, Q3, Q4, Q5, Q6, Q7, Q8, ge_iff_le, gt_iff_lt] at hc10
  ·
   refine wr ?_
   refine um ?_
   refine ub ?_
   refine uc th126 th3 ?_
   refine ua ?_
   refine u_nil ?_
   refine WP.ret ?_
   refine retM_ok rfl ?_ (by omega) (by rw [hr]; exact hb7) (fun t ht => (hk7 t (by omega)))
   rw [hr]; exact congrArg (fun z => SV.d (.int .i64 z)) (zag_even hv hc10)
  ·
   refine WP.skip ?_
   refine hK8 _ ?_
   refine wr ?_
   refine um ?_
   refine ub ?_
   refine uc th126 th3 ?_
   refine u_step (o_un rfl rfl ?_)
   refine ub ?_
   refine ua ?_
   refine u_nil ?_
   refine WP.ret ?_
   refine retM_ok rfl ?_ (by omega) (by rw [hr]; exact hb7) (fun t ht => (hk7 t (by omega)))
   rw [hr]; exact congrArg (fun z => SV.d (.int .i64 z)) (zag_odd hv hc10)

theorem fn96 : FnOk Tryz.prog 96 52 [4] (bodyOf Tryz.f96) := ⟨Tryz.f96, Tryz.func96, by kernel_rfl, by decide, by kernel_rfl, by kernel_rfl⟩
theorem s96 (s : SB) (most : Int) (hx : s.1.length ≤ 4611686018427387904) : MSpec Tryz.prog 96 (fun k => [.loc k 0, .d (.int .i64 most)]) (srcS s) (srcS (txtS s most).2) (.d (.str (txtS s most).1)) := by
 refine MSpec.of fn96 (fun _ => by simp) (fun _ => by first | exact srcS_lts _ _ | simp [SV.lts, SV.lt]) (fun _ => by first | trivial | simp [SV.lt, SV.lts]) (by first | rfl | simp [SV.ren, SV.rens]) fun o nk k hkn hM => ?_
 refine wr ?_
 refine u_step (o_assign (show _ = SV.d (.str []) from rfl) ?_)
 refine u_nil ?_
 refine wr ?_
 refine u_step (o_moveV (v := .loc _ _) rfl ?_)
 refine u_step (o_nc rfl hM ?_)
 refine uf th63 th52 hM ?_
 refine ul th52 hM ?_
 refine ua ?_
 refine u_nil ?_
 refine wr ?_
 refine u_step (o_moveV (v := .loc _ _) rfl ?_)
 refine um ?_
 refine u_step (g_mcall (s94 s most) hM rfl fun o4 hb4 hk4 => ?_)
 refine ua ?_
 refine u_nil ?_
 refine WP.seq fun K5 hK5 => ?_
 refine wr ?_
 refine u_step (o_moveV (v := .loc _ _) rfl ?_)
 refine u_step (o_nc rfl hb4 ?_)
 refine uf th63 th4 hb4 ?_
 refine ul th4 hb4 ?_
 refine um ?_
 apply gF
 · rfl
 · intro hg
   exact pm
 apply gF
 · rfl
 · intro hg
   refine o_moveV (v := .loc _ _) rfl ⟨rfl, rfl, rfl⟩
 apply gF
 · rfl
 · intro hg; try simp only [hg, ct]; try simp only [hg, ct, Bt]
   refine o_nc rfl hb4 ⟨rfl, rfl, rfl⟩
 apply gF
 · rfl
 · intro hg; try simp only [hg, ct]; try simp only [hg, ct, Bt]
   exact pf th63 th52 hb4
 apply gF
 · rfl
 · intro hg; try simp only [hg, ct]; try simp only [hg, ct, Bt]
   exact pl th52 hb4
 apply gF
 · rfl
 · intro hg; try simp only [hg, ct]; try simp only [hg, ct, Bt]
   exact pn th52
 apply gF
 · rfl
 · intro hg; try simp only [hg, ct]; try simp only [hg, ct, Bt]
   exact pb
 refine uO ?_
 refine u_nil ?_
 refine wc (fun hc7 => ?_) (fun hc7 => ?_) <;> try simp only [Q0, Q1, Q2, Q3, Q4, Q5, Q6, Q7, Q8, ge_iff_le, gt_iff_lt] at hc7
 ·
  have hz : (cntS s most).2.2 = true ∨ ((cntS s most).2.1.length : Int) < (cntS s most).1 := by have hq := hc7; simp at hq; exact hq
  have hr := txt_fail hx hz
  refine wr ?_
  refine u_step (o_moveV (v := .loc _ _) rfl ?_)
  refine u_step (o_moveV (v := .loc _ _) rfl ?_)
  refine um ?_
  refine u_step (o_nc rfl hb4 ?_)
  refine uf th63 th52 hb4 ?_
  refine u_step0 (g_st rfl rfl rfl th52 rfl hb4 (by simp) fun o9 hb9 hk9 => ?_)
  refine u_step (o_nc rfl hb9 ?_)
  refine uf th63 th4 hb9 ?_
  refine u_step0 (g_st rfl rfl rfl th4 rfl hb9 (by simp) fun o10 hb10 hk10 => ?_)
  refine u_nil ?_
  refine wr ?_
  refine u_step (o_assign (show _ = SV.d (.str []) from rfl) ?_)
  refine u_nil ?_
  refine WP.ret ?_
  refine retM_ok rfl ?_ (by omega) (by rw [hr]; exact hb10) (fun t ht => (hk10 t (by omega)).trans ((hk9 t (by omega)).trans ((hk4 t (by omega)))))
  rw [hr]; rfl
 ·
  have hz : ¬ ((cntS s most).2.2 = true ∨ ((cntS s most).2.1.length : Int) < (cntS s most).1) := by have hq := hc7; simp at hq; simp; omega
  have hf := txt_fine hx hz
  have hb := hf.2.2.1
  have hr := hf.2.2.2
  have hn := congrArg (fun z => SV.d (.int .i64 z)) hf.1
  refine WP.skip ?_
  refine hK5 _ ?_
  refine wr ?_
  refine u_step (o_moveV (v := .loc _ _) rfl ?_)
  refine u_step (o_nc rfl hb4 ?_)
  refine uf th63 th52 hb4 ?_
  refine ul th52 hb4 ?_
  refine um ?_
  refine u_step (o_sl_bH (p := (gP s).1) rfl hn th52 rfl th5 rfl hf.2.1 ?_)
  refine u_step (o_cv_sb rfl th52 rfl th5 rfl th9 rfl ?_)
  refine ua ?_
  refine u_nil ?_
  refine wr ?_
  refine u_step (o_moveV (v := .loc _ _) rfl ?_)
  refine u_step (o_moveV (v := .loc _ _) rfl ?_)
  refine u_step (o_nc rfl hb4 ?_)
  refine uf th63 th52 hb4 ?_
  refine ul th52 hb4 ?_
  refine um ?_
  refine u_step (o_sl_bL (m := (gP s).1) rfl hn th52 rfl th5 rfl hf.2.1 ?_)
  refine u_step (o_nc rfl hb4 ?_)
  refine uf th63 th52 hb4 ?_
  refine u_step0 (g_st rfl rfl rfl th52 rfl hb4 (by simp) fun o14 hb14 hk14 => ?_)
  refine u_nil ?_
  refine wr ?_
  refine um ?_
  refine ua ?_
  refine u_nil ?_
  refine WP.ret ?_
  refine retM_ok rfl ?_ (by omega) (by rw [hr]; have h := hb14; simp only [srcS, hb] at h; exact h) (fun t ht => (hk14 t (by omega)).trans ((hk4 t (by omega))))
  rw [hr]; rfl

end Go.Proofs.YtpkcbdhjnnnkbaaGreat.Abs

set_option linter.unusedVariables false
set_option linter.unusedSimpArgs false
set_option maxRecDepth 10000
namespace Go.Proofs.YtpkcbdhjnnnkbaaGreat.Abs
open Go
/-- Items, one behind the other. -/
def rdIs (rd : SB → Val × SB) (doc : Bool) : Nat → SB → List Val → List Str → List Val × List Str × SB
  | 0, s, xs, ns => (xs, ns, s)
  | n + 1, s, xs, ns => if s.2 = true then (xs, ns, s) else
      rdIs rd doc n (rd (if doc = true then (txtS s 32).2 else s)).2 (xs ++ [(rd (if doc = true then (txtS s 32).2 else s)).1]) (if doc = true then ns ++ [(txtS s 32).1] else ns)
/-- A value, as the program reads it. -/
def rdV : Nat → SB → Val × SB
  | 0, s => (.mk (rdByte s).1 0 [] [] [], ((rdByte s).2.1, true))
  | d + 1, s =>
    if (rdByte s).1 = 1 then (.mk (rdByte s).1 0 [] [] [], (rdByte s).2)
    else if (rdByte s).1 = 2 then (.mk (rdByte s).1 (rdByte (rdByte s).2).1 [] [] [], (rdByte (rdByte s).2).2)
    else if (rdByte s).1 = 3 then (.mk (rdByte s).1 (intS (rdByte s).2).1 [] [] [], (intS (rdByte s).2).2)
    else if (rdByte s).1 = 4 ∨ (rdByte s).1 = 5 then (.mk (rdByte s).1 0 (txtS (rdByte s).2 4096).1 [] [], (txtS (rdByte s).2 4096).2)
    else if (rdByte s).1 = 6 ∨ (rdByte s).1 = 7 then
      (.mk (rdByte s).1 0 [] (rdIs (rdV d) (decide ((rdByte s).1 = 7)) (cntS (rdByte s).2 4096).1.toNat (cntS (rdByte s).2 4096).2 [] []).1 (rdIs (rdV d) (decide ((rdByte s).1 = 7)) (cntS (rdByte s).2 4096).1.toNat (cntS (rdByte s).2 4096).2 [] []).2.1,
        (rdIs (rdV d) (decide ((rdByte s).1 = 7)) (cntS (rdByte s).2 4096).1.toNat (cntS (rdByte s).2 4096).2 [] []).2.2)
    else (.mk (rdByte s).1 0 [] [] [], ((rdByte s).2.1, true))
/-- Nothing is put back. -/
theorem byte_le (s : SB) : (rdByte s).2.1.length ≤ s.1.length := by unfold rdByte; split <;> simp
theorem take_le (s : SB) (n : Nat) (r : Bool) : (takeS s n r).2.1.length ≤ s.1.length := by unfold takeS; split <;> simp
theorem cnt_le (s : SB) (m : Int) : (cntS s m).2.1.length ≤ s.1.length := take_le _ _ _
theorem int_le (s : SB) : (intS s).2.1.length ≤ s.1.length := take_le _ _ _
theorem txt_le (s : SB) (m : Int) : (txtS s m).2.1.length ≤ s.1.length := by unfold txtS; split <;> simp
theorem rdIs_le {rd : SB → Val × SB} (hrd : ∀ s, (rd s).2.1.length ≤ s.1.length) (doc : Bool) : ∀ (n : Nat) (s : SB) (xs : List Val) (ns : List Str), (rdIs rd doc n s xs ns).2.2.1.length ≤ s.1.length
  | 0, s, xs, ns => Nat.le_refl _
  | n + 1, s, xs, ns => by
    simp only [rdIs]
    split
    · exact Nat.le_refl _
    · refine Nat.le_trans (rdIs_le hrd doc n _ _ _) (Nat.le_trans (hrd _) ?_)
      split
      · exact txt_le _ _
      · exact Nat.le_refl _
theorem rdV_le : ∀ (d : Nat) (s : SB), (rdV d s).2.1.length ≤ s.1.length
  | 0, s => byte_le s
  | d + 1, s => by
    have hb := byte_le s
    simp only [rdV]
    repeat' split
    · exact hb
    · exact Nat.le_trans (byte_le _) hb
    · exact Nat.le_trans (int_le _) hb
    · exact Nat.le_trans (txt_le _ _) hb
    · exact Nat.le_trans (rdIs_le (rdV_le d) _ _ _ _ _) (Nat.le_trans (cnt_le _ _) hb)
    · exact hb
theorem leV0 (k i : Int) (t : Str) : D.le (.agg [.int .i64 k, .int .i64 i, .str t, .nil, .nil]) (encV (.mk k i t [] [])) := by simp [encV, D.le, D.les, encVs]

theorem fn151 : FnOkC Tryz.prog 151 45 [.cell 4 27] (bodyOf Tryz.f151) := ⟨Tryz.f151, Tryz.func151, by kernel_rfl, by decide, by kernel_rfl, by kernel_rfl⟩
theorem s151 (d : Nat) (hdb : d ≤ 8) (s : SB) (hx : s.1.length ≤ 4611686018427387904) (hit : ∀ e, d = e + 1 → ∀ (kd : Int) (s : SB), s.1.length ≤ 4611686018427387904 → MSpec Tryz.prog 180 (fun k => [.loc k 0, .d (.agg [.int .i64 kd, .int .i64 0, .str [], .nil, .nil]), .d (.int .i64 e)]) (srcS s) (srcS (rdIs (rdV e) (decide (kd = 7)) (cntS s 4096).1.toNat (cntS s 4096).2 [] []).2.2) (.d (encV (.mk kd 0 [] (rdIs (rdV e) (decide (kd = 7)) (cntS s 4096).1.toNat (cntS s 4096).2 [] []).1 (rdIs (rdV e) (decide (kd = 7)) (cntS s 4096).1.toNat (cntS s 4096).2 [] []).2.1)))) : MSpec Tryz.prog 151 (fun k => [.loc k 0, .d (.int .i64 d)]) (srcS s) (srcS (rdV d s).2) (.d (encV (rdV d s).1)) := by
 have hb1 := byte_le s
 refine MSpec.ofC tabOk fn151 (fun _ => by simp) (fun _ => by first | exact srcS_lts _ _ | simp [SV.lts, SV.lt]) fun o nk k hkn hM => ?_
 refine wr ?_
 refine u_step (g_alloc th27 rfl fun o2 hb2 hk2 => ?_)
 have hM_2 := (hk2 _ (by omega)).trans hM
 refine u_nil ?_
 refine wr ?_
 refine u_step (o_moveV (v := .loc _ _) rfl ?_)
 refine u_step (g_mcall (s106 s) hM_2 rfl fun o4 hb4 hk4 => ?_)
 have hb2_4 := (hk4 _ (by omega)).trans hb2
 refine u_step (o_bu rfl th27 rfl rfl ?_)
 refine u_step (g_alloc th27 rfl fun o5 hb5 hk5 => ?_)
 have hb2_5 := (hk5 _ (by omega)).trans hb2_4
 have hb4_5 := (hk5 _ (by omega)).trans hb4
 refine u_step0 (g_sta rfl rfl th27 rfl hb5 (by first | (simp; done) | (simp [D.leaves, D.width, valCells]; done) | decide) fun o6 hb6 hk6 => ?_)
 have hb2_6 := (hk6 _ (by omega)).trans hb2_5
 have hb4_6 := (hk6 _ (by omega)).trans hb4_5
 refine u_nil ?_
 refine WP.seq fun K7 hK7 => ?_
 refine wr ?_
 refine um ?_
 refine ub ?_
 refine u_nil ?_
 refine wc (fun hc9 => ?_) (fun hc9 => ?_) <;> try simp only [Q0, Q1, Q2, Q3, Q4, Q5, Q6, Q7, Q8, ge_iff_le, gt_iff_lt] at hc9
 ·
  have hd : d = 0 := by have hq := hc9; (try simp at hq); omega
  subst hd
  refine wr ?_
  refine u_step (o_moveV (v := .loc _ _) rfl ?_)
  refine u_step (g_mcall (s109 _) hb4_6 rfl fun o11 hb11 hk11 => ?_)
  have hb2_11 := (hk11 _ (by omega)).trans hb2_6
  have hb6_11 := (hk11 _ (by omega)).trans hb6
  refine u_nil ?_
  refine wr ?_
  refine ug th27 hb6_11 ?_
  refine u_step0 (g_sta rfl rfl th27 rfl hb2_11 (by first | (simp; done) | (simp [D.leaves, D.width, valCells]; done) | decide) fun o13 hb13 hk13 => ?_)
  have hb6_13 := (hk13 _ (by omega)).trans hb6_11
  have hb11_13 := (hk13 _ (by omega)).trans hb11
  refine u_nil ?_
  refine WP.ret ?_
  refine retCM_ok (resis_agg rfl th27 rfl hb13 rfl rfl rfl) ?_ (by omega) hb11_13 (fun t ht => (hk13 t (by omega)).trans ((hk11 t (by omega)).trans ((hk6 t (by omega)).trans ((hk5 t (by omega)).trans ((hk4 t (by omega)).trans ((hk2 t (by omega))))))))
  exact leV0 _ _ _
 ·
  obtain ⟨e, he⟩ : ∃ e, d = e + 1 := ⟨d - 1, by have hq := hc9; (try simp at hq); omega⟩
  have hde : IntKind.i64.wrap ((d : Int) - 1) = (e : Int) := by rw [wrap_i64 (by omega) (by omega)]; omega
  refine WP.skip ?_
  refine hK7 _ ?_
  refine WP.seq fun K14 hK14 => ?_
  refine wr ?_
  refine uf th27 th3 hb6 ?_
  refine ul th3 hb6 ?_
  refine u_nil ?_
  refine WP.block ?_
  refine wr ?_
  refine ub ?_
  refine ua ?_
  refine u_nil ?_
  refine wc (fun hc17 => ?_) (fun hc17 => ?_) <;> try simp only [Q0, Q1, Q2, Q3, Q4, Q5, Q6, Q7, Q8, ge_iff_le, gt_iff_lt] at hc17
  ·
   have g1 : (rdByte s).1 = 1 := by simpa using hc17
   have hr : rdV d s = (.mk (rdByte s).1 0 [] [] [], (rdByte s).2) := by rw [he]; simp only [rdV]; rw [if_pos g1]
   refine WP.skip ?_
   refine hK14 _ ?_
   refine wr ?_
   refine ug th27 hb6 ?_
   refine u_step0 (g_sta rfl rfl th27 rfl hb2_6 (by first | (simp; done) | (simp [D.leaves, D.width, valCells]; done) | decide) fun o19 hb19 hk19 => ?_)
   have hb4_19 := (hk19 _ (by omega)).trans hb4_6
   have hb6_19 := (hk19 _ (by omega)).trans hb6
   refine u_nil ?_
   refine WP.ret ?_
   refine retCM_ok (resis_agg rfl th27 rfl hb19 rfl rfl rfl) ?_ (by omega) (by rw [hr]; exact hb4_19) (fun t ht => (hk19 t (by omega)).trans ((hk6 t (by omega)).trans ((hk5 t (by omega)).trans ((hk4 t (by omega)).trans ((hk2 t (by omega)))))))
   rw [hr]; exact leV0 _ _ _
  ·
   have g1 : ¬ (rdByte s).1 = 1 := by simpa using hc17
   refine wr ?_
   refine ub ?_
   refine ua ?_
   refine u_nil ?_
   refine wc (fun hc21 => ?_) (fun hc21 => ?_) <;> try simp only [Q0, Q1, Q2, Q3, Q4, Q5, Q6, Q7, Q8, ge_iff_le, gt_iff_lt] at hc21
   ·
    have g2 : (rdByte s).1 = 2 := by simpa using hc21
    have hr : rdV d s = (.mk (rdByte s).1 (rdByte (rdByte s).2).1 [] [] [], (rdByte (rdByte s).2).2) := by rw [he]; simp only [rdV]; rw [if_neg g1, if_pos g2]
    refine WP.reg tabOk rfl ?_
    refine u_step (o_moveV (v := .loc _ _) rfl ?_)
    refine u_step (g_mcall (s106 _) hb4_6 rfl fun o22 hb22 hk22 => ?_)
    have hb2_22 := (hk22 _ (by omega)).trans hb2_6
    have hb6_22 := (hk22 _ (by omega)).trans hb6
    refine uf th27 th3 hb6_22 ?_
    refine u_step0 (g_st rfl rfl rfl th3 rfl hb6_22 (by first | (simp; done) | (simp [D.leaves, D.width]; done) | decide) fun o23 hb23 hk23 => ?_)
    have hb2_23 := (hk23 _ (by omega)).trans hb2_22
    have hb22_23 := (hk23 _ (by omega)).trans hb22
    refine u_nil ?_
    refine hK14 _ ?_
    refine wr ?_
    refine ug th27 hb23 ?_
    refine u_step0 (g_sta rfl rfl th27 rfl hb2_23 (by first | (simp; done) | (simp [D.leaves, D.width, valCells]; done) | decide) fun o25 hb25 hk25 => ?_)
    have hb22_25 := (hk25 _ (by omega)).trans hb22_23
    have hb23_25 := (hk25 _ (by omega)).trans hb23
    refine u_nil ?_
    refine WP.ret ?_
    refine retCM_ok (resis_agg rfl th27 rfl hb25 rfl rfl rfl) ?_ (by omega) (by rw [hr]; exact hb22_25) (fun t ht => (hk25 t (by omega)).trans ((hk23 t (by omega)).trans ((hk22 t (by omega)).trans ((hk6 t (by omega)).trans ((hk5 t (by omega)).trans ((hk4 t (by omega)).trans ((hk2 t (by omega)))))))))
    rw [hr]; exact leV0 _ _ _
   ·
    have g2 : ¬ (rdByte s).1 = 2 := by simpa using hc21
    refine wr ?_
    refine ub ?_
    refine ua ?_
    refine u_nil ?_
    refine wc (fun hc27 => ?_) (fun hc27 => ?_) <;> try simp only [Q0, Q1, Q2, Q3, Q4, Q5, Q6, Q7, Q8, ge_iff_le, gt_iff_lt] at hc27
    ·
     have g3 : (rdByte s).1 = 3 := by simpa using hc27
     have hr : rdV d s = (.mk (rdByte s).1 (intS (rdByte s).2).1 [] [] [], (intS (rdByte s).2).2) := by rw [he]; simp only [rdV]; rw [if_neg g1, if_neg g2, if_pos g3]
     refine WP.reg tabOk rfl ?_
     refine u_step (o_moveV (v := .loc _ _) rfl ?_)
     refine u_step (g_mcall (s179 _) hb4_6 rfl fun o28 hb28 hk28 => ?_)
     have hb2_28 := (hk28 _ (by omega)).trans hb2_6
     have hb6_28 := (hk28 _ (by omega)).trans hb6
     refine uf th27 th3 hb6_28 ?_
     refine u_step0 (g_st rfl rfl rfl th3 rfl hb6_28 (by first | (simp; done) | (simp [D.leaves, D.width]; done) | decide) fun o29 hb29 hk29 => ?_)
     have hb2_29 := (hk29 _ (by omega)).trans hb2_28
     have hb28_29 := (hk29 _ (by omega)).trans hb28
     refine u_nil ?_
     refine hK14 _ ?_
     refine wr ?_
     refine ug th27 hb29 ?_
     refine u_step0 (g_sta rfl rfl th27 rfl hb2_29 (by first | (simp; done) | (simp [D.leaves, D.width, valCells]; done) | decide) fun o31 hb31 hk31 => ?_)
     have hb28_31 := (hk31 _ (by omega)).trans hb28_29
     have hb29_31 := (hk31 _ (by omega)).trans hb29
     refine u_nil ?_
     refine WP.ret ?_
     refine retCM_ok (resis_agg rfl th27 rfl hb31 rfl rfl rfl) ?_ (by omega) (by rw [hr]; exact hb28_31) (fun t ht => (hk31 t (by omega)).trans ((hk29 t (by omega)).trans ((hk28 t (by omega)).trans ((hk6 t (by omega)).trans ((hk5 t (by omega)).trans ((hk4 t (by omega)).trans ((hk2 t (by omega)))))))))
     rw [hr]; exact leV0 _ _ _
    ·
     have g3 : ¬ (rdByte s).1 = 3 := by simpa using hc27
     refine WP.seqJ ⟨al [(0, .loc k 0), (1, .d (.int .i64 d)), (4, .loc nk 0), (5, .loc (nk + 1) 0), (15, .d (.int .i64 (rdByte s).1)), (30, .d (.bool (decide ((rdByte s).1 = 4 ∨ (rdByte s).1 = 5))))], o6, ((nk + 1) + 1)⟩ ?_ ?_
     ·
      refine wr ?_
      refine ub ?_
      refine ua ?_
      refine u_nil ?_
      refine wc (fun hc33 => ?_) (fun hc33 => ?_) <;> try simp only [Q0, Q1, Q2, Q3, Q4, Q5, Q6, Q7, Q8, ge_iff_le, gt_iff_lt] at hc33
      ·
       try (have g4 : (rdByte s).1 = 4 ∨ (rdByte s).1 = 5 := hc33)
       try (have hr : rdV d s = (.mk (rdByte s).1 0 (txtS (rdByte s).2 4096).1 [] [], (txtS (rdByte s).2 4096).2) := by rw [he]; simp only [rdV]; rw [if_neg g1, if_neg g2, if_neg g3, if_pos g4])
       refine WP.skip ?_
       refine Le.al ?_
       simp only [List.forall_mem_cons]
       have hl2 := hc33
       refine ⟨rfl, rfl, rfl, rfl, rfl, ?_, by simp⟩
       refine congrArg (fun z => SV.d (.bool z)) ?_
       rw [Bool.eq_iff_iff, decide_eq_true_iff]
       simp at hl2 ⊢
       omega
      ·
       try (have g4 : ¬ ((rdByte s).1 = 4 ∨ (rdByte s).1 = 5) := hc33)
       refine WP.reg tabOk rfl ?_
       refine ub ?_
       refine ua ?_
       refine u_nil ?_
       refine Le.al ?_
       simp only [List.forall_mem_cons]
       have hl2 := hc33
       refine ⟨rfl, rfl, rfl, rfl, rfl, ?_, by simp⟩
       refine congrArg (fun z => SV.d (.bool z)) ?_
       rw [Bool.eq_iff_iff, decide_eq_true_iff]
       simp at hl2 ⊢
       omega
     ·
      refine wc (fun hc34 => ?_) (fun hc34 => ?_) <;> try simp only [Q0, Q1, Q2, Q3, Q4, Q5, Q6, Q7, Q8, ge_iff_le, gt_iff_lt] at hc34
      ·
       try (have g4 : (rdByte s).1 = 4 ∨ (rdByte s).1 = 5 := hc34)
       try (have hr : rdV d s = (.mk (rdByte s).1 0 (txtS (rdByte s).2 4096).1 [] [], (txtS (rdByte s).2 4096).2) := by rw [he]; simp only [rdV]; rw [if_neg g1, if_neg g2, if_neg g3, if_pos g4])
       refine WP.reg tabOk rfl ?_
       refine u_step (o_moveV (v := .loc _ _) rfl ?_)
       refine u_step (g_mcall (s107 _ _ (by omega)) hb4_6 rfl fun o35 hb35 hk35 => ?_)
       have hb2_35 := (hk35 _ (by omega)).trans hb2_6
       have hb6_35 := (hk35 _ (by omega)).trans hb6
       refine uf th27 th9 hb6_35 ?_
       refine u_step0 (g_st rfl rfl rfl th9 rfl hb6_35 (by first | (simp; done) | (simp [D.leaves, D.width]; done) | decide) fun o36 hb36 hk36 => ?_)
       have hb2_36 := (hk36 _ (by omega)).trans hb2_35
       have hb35_36 := (hk36 _ (by omega)).trans hb35
       refine u_nil ?_
       refine hK14 _ ?_
       refine wr ?_
       refine ug th27 hb36 ?_
       refine u_step0 (g_sta rfl rfl th27 rfl hb2_36 (by first | (simp; done) | (simp [D.leaves, D.width, valCells]; done) | decide) fun o38 hb38 hk38 => ?_)
       have hb35_38 := (hk38 _ (by omega)).trans hb35_36
       have hb36_38 := (hk38 _ (by omega)).trans hb36
       refine u_nil ?_
       refine WP.ret ?_
       refine retCM_ok (resis_agg rfl th27 rfl hb38 rfl rfl rfl) ?_ (by omega) (by rw [hr]; exact hb35_38) (fun t ht => (hk38 t (by omega)).trans ((hk36 t (by omega)).trans ((hk35 t (by omega)).trans ((hk6 t (by omega)).trans ((hk5 t (by omega)).trans ((hk4 t (by omega)).trans ((hk2 t (by omega)))))))))
       rw [hr]; exact leV0 _ _ _
      ·
       try (have g4 : ¬ ((rdByte s).1 = 4 ∨ (rdByte s).1 = 5) := hc34)
       refine WP.seqJ ⟨al [(0, .loc k 0), (1, .d (.int .i64 d)), (4, .loc nk 0), (5, .loc (nk + 1) 0), (15, .d (.int .i64 (rdByte s).1)), (36, .d (.bool (decide ((rdByte s).1 = 6 ∨ (rdByte s).1 = 7))))], o6, ((nk + 1) + 1)⟩ ?_ ?_
       ·
        refine wr ?_
        refine ub ?_
        refine ua ?_
        refine u_nil ?_
        refine wc (fun hc40 => ?_) (fun hc40 => ?_) <;> try simp only [Q0, Q1, Q2, Q3, Q4, Q5, Q6, Q7, Q8, ge_iff_le, gt_iff_lt] at hc40
        ·
         try (have g6 : (rdByte s).1 = 6 ∨ (rdByte s).1 = 7 := hc40)
         try (have hr : rdV d s = (.mk (rdByte s).1 0 [] (rdIs (rdV e) (decide ((rdByte s).1 = 7)) (cntS (rdByte s).2 4096).1.toNat (cntS (rdByte s).2 4096).2 [] []).1 (rdIs (rdV e) (decide ((rdByte s).1 = 7)) (cntS (rdByte s).2 4096).1.toNat (cntS (rdByte s).2 4096).2 [] []).2.1, (rdIs (rdV e) (decide ((rdByte s).1 = 7)) (cntS (rdByte s).2 4096).1.toNat (cntS (rdByte s).2 4096).2 [] []).2.2) := by rw [he]; simp only [rdV]; rw [if_neg g1, if_neg g2, if_neg g3, if_neg g4, if_pos g6])
         refine WP.skip ?_
         refine Le.al ?_
         simp only [List.forall_mem_cons]
         have hl2 := hc40
         refine ⟨rfl, rfl, rfl, rfl, rfl, ?_, by simp⟩
         refine congrArg (fun z => SV.d (.bool z)) ?_
         rw [Bool.eq_iff_iff, decide_eq_true_iff]
         simp at hl2 ⊢
         omega
        ·
         try (have g6 : ¬ ((rdByte s).1 = 6 ∨ (rdByte s).1 = 7) := hc40)
         try (have hr : rdV d s = (.mk (rdByte s).1 0 [] [] [], ((rdByte s).2.1, true)) := by rw [he]; simp only [rdV]; rw [if_neg g1, if_neg g2, if_neg g3, if_neg g4, if_neg g6])
         refine WP.reg tabOk rfl ?_
         refine ub ?_
         refine ua ?_
         refine u_nil ?_
         refine Le.al ?_
         simp only [List.forall_mem_cons]
         have hl2 := hc40
         refine ⟨rfl, rfl, rfl, rfl, rfl, ?_, by simp⟩
         refine congrArg (fun z => SV.d (.bool z)) ?_
         rw [Bool.eq_iff_iff, decide_eq_true_iff]
         simp at hl2 ⊢
         omega
       ·
        refine wc (fun hc41 => ?_) (fun hc41 => ?_) <;> try simp only [Q0, Q1, Q2, Q3, Q4, Q5, Q6, Q7, Q8, ge_iff_le, gt_iff_lt] at hc41
        ·
         try (have g6 : (rdByte s).1 = 6 ∨ (rdByte s).1 = 7 := hc41)
         try (have hr : rdV d s = (.mk (rdByte s).1 0 [] (rdIs (rdV e) (decide ((rdByte s).1 = 7)) (cntS (rdByte s).2 4096).1.toNat (cntS (rdByte s).2 4096).2 [] []).1 (rdIs (rdV e) (decide ((rdByte s).1 = 7)) (cntS (rdByte s).2 4096).1.toNat (cntS (rdByte s).2 4096).2 [] []).2.1, (rdIs (rdV e) (decide ((rdByte s).1 = 7)) (cntS (rdByte s).2 4096).1.toNat (cntS (rdByte s).2 4096).2 [] []).2.2) := by rw [he]; simp only [rdV]; rw [if_neg g1, if_neg g2, if_neg g3, if_neg g4, if_pos g6])
         refine wr ?_
         refine u_step (o_moveV (v := .loc _ _) rfl ?_)
         refine ug th27 hb6 ?_
         refine um ?_
         refine u_step (o_bin_int rfl rfl (by decide) (show intBin .sub .i64 (d : Int) 1 = some (.int .i64 (e : Int)) from congrArg (fun z => some (D.int .i64 z)) hde) ?_)
         refine u_step (g_mcall (hit e he _ _ (by omega)) hb4_6 rfl fun o43 hb43 hk43 => ?_)
         have hb2_43 := (hk43 _ (by omega)).trans hb2_6
         have hb6_43 := (hk43 _ (by omega)).trans hb6
         refine u_step0 (g_sta rfl rfl th27 rfl hb2_43 (by first | (simp; done) | (simp [D.leaves, D.width, valCells]; done) | decide) fun o44 hb44 hk44 => ?_)
         have hb6_44 := (hk44 _ (by omega)).trans hb6_43
         have hb43_44 := (hk44 _ (by omega)).trans hb43
         refine u_nil ?_
         refine WP.ret ?_
         refine retCM_ok (resis_agg rfl th27 rfl hb44 rfl rfl rfl) ?_ (by omega) (by rw [hr]; exact hb43_44) (fun t ht => (hk44 t (by omega)).trans ((hk43 t (by omega)).trans ((hk6 t (by omega)).trans ((hk5 t (by omega)).trans ((hk4 t (by omega)).trans ((hk2 t (by omega))))))))
         rw [hr]; exact D.le_refl _
        ·
         try (have g6 : ¬ ((rdByte s).1 = 6 ∨ (rdByte s).1 = 7) := hc41)
         try (have hr : rdV d s = (.mk (rdByte s).1 0 [] [] [], ((rdByte s).2.1, true)) := by rw [he]; simp only [rdV]; rw [if_neg g1, if_neg g2, if_neg g3, if_neg g4, if_neg g6])
         refine WP.reg tabOk rfl ?_
         refine u_step (o_moveV (v := .loc _ _) rfl ?_)
         refine u_step (g_mcall (s109 _) hb4_6 rfl fun o45 hb45 hk45 => ?_)
         have hb2_45 := (hk45 _ (by omega)).trans hb2_6
         have hb6_45 := (hk45 _ (by omega)).trans hb6
         refine u_nil ?_
         refine hK14 _ ?_
         refine wr ?_
         refine ug th27 hb6_45 ?_
         refine u_step0 (g_sta rfl rfl th27 rfl hb2_45 (by first | (simp; done) | (simp [D.leaves, D.width, valCells]; done) | decide) fun o47 hb47 hk47 => ?_)
         have hb6_47 := (hk47 _ (by omega)).trans hb6_45
         have hb45_47 := (hk47 _ (by omega)).trans hb45
         refine u_nil ?_
         refine WP.ret ?_
         refine retCM_ok (resis_agg rfl th27 rfl hb47 rfl rfl rfl) ?_ (by omega) (by rw [hr]; exact hb45_47) (fun t ht => (hk47 t (by omega)).trans ((hk45 t (by omega)).trans ((hk6 t (by omega)).trans ((hk5 t (by omega)).trans ((hk4 t (by omega)).trans ((hk2 t (by omega))))))))
         rw [hr]; exact leV0 _ _ _

end Go.Proofs.YtpkcbdhjnnnkbaaGreat.Abs

set_option linter.unusedVariables false
set_option linter.unusedSimpArgs false
set_option maxRecDepth 10000
namespace Go.Proofs.YtpkcbdhjnnnkbaaGreat.Abs
open Go
theorem cnt_rng (s : SB) (m : Int) (h0 : 0 ≤ m) : 0 ≤ (cntS s m).1 ∧ (cntS s m).1 ≤ m := by
  cases h : (takeS s (gP s).2 (rightS (gP s).1 m)).1 with
  | false => rw [cntS_no h]; omega
  | true =>
    rw [cntS_yes h]
    have hr : rightS (gP s).1 m = true := by
      unfold takeS at h
      split at h
      · cases h
      · rename_i hq
        cases hz : rightS (gP s).1 m with
        | true => rfl
        | false => exact absurd (Or.inr (Or.inr hz)) hq
    simp only [rightS, Bool.and_eq_true, decide_eq_true_eq] at hr
    have hw : IntKind.i64.wrap ((gP s).1 : Int) = ((gP s).1 : Int) := wrap_i64 (by omega) (by omega)
    rw [hw] at hr ⊢
    omega
theorem encVs_app (xs : List Val) (v : Val) : encVs (xs ++ [v]) = encVs xs ++ [encV v] := by simp [encVs_map]
theorem rdIs_doc {rd : SB → Val × SB} {doc : Bool} {n : Nat} {s : SB} {xs : List Val} {ns : List Str} (hd : doc = true) (hb : ¬ s.2 = true) : rdIs rd doc (n + 1) s xs ns = rdIs rd doc n (rd (txtS s 32).2).2 (xs ++ [(rd (txtS s 32).2).1]) (ns ++ [(txtS s 32).1]) := by
  subst hd; simp only [rdIs, if_neg hb, if_true]
theorem rdIs_arr {rd : SB → Val × SB} {doc : Bool} {n : Nat} {s : SB} {xs : List Val} {ns : List Str} (hd : ¬ doc = true) (hb : ¬ s.2 = true) : rdIs rd doc (n + 1) s xs ns = rdIs rd doc n (rd s).2 (xs ++ [(rd s).1]) ns := by
  simp only [rdIs, if_neg hb, if_neg hd]
theorem rdIs_bad {rd : SB → Val × SB} {doc : Bool} {n : Nat} {s : SB} {xs : List Val} {ns : List Str} (hb : s.2 = true) : rdIs rd doc n s xs ns = (xs, ns, s) := by
  cases n with
  | zero => rfl
  | succ n => simp only [rdIs, if_pos hb]

theorem fn180 : FnOkC Tryz.prog 180 33 [.cell 6 27] (bodyOf Tryz.f180) := ⟨Tryz.f180, Tryz.func180, by kernel_rfl, by decide, by kernel_rfl, by kernel_rfl⟩
theorem s180 (e : Nat) (ih : ∀ s : SB, s.1.length ≤ 4611686018427387904 → MSpec Tryz.prog 151 (fun k => [.loc k 0, .d (.int .i64 e)]) (srcS s) (srcS (rdV e s).2) (.d (encV (rdV e s).1))) (kd : Int) (s : SB) (hx : s.1.length ≤ 4611686018427387904) : MSpec Tryz.prog 180 (fun k => [.loc k 0, .d (.agg [.int .i64 kd, .int .i64 0, .str [], .nil, .nil]), .d (.int .i64 e)]) (srcS s) (srcS (rdIs (rdV e) (decide (kd = 7)) (cntS s 4096).1.toNat (cntS s 4096).2 [] []).2.2) (.d (encV (.mk kd 0 [] (rdIs (rdV e) (decide (kd = 7)) (cntS s 4096).1.toNat (cntS s 4096).2 [] []).1 (rdIs (rdV e) (decide (kd = 7)) (cntS s 4096).1.toNat (cntS s 4096).2 [] []).2.1))) := by
 have hcr := cnt_rng s 4096 (by decide)
 have hcl := cnt_le s 4096
 refine MSpec.ofC tabOk fn180 (fun _ => by simp) (fun _ => by first | exact srcS_lts _ _ | simp [SV.lts, SV.lt]) fun o nk k hkn hM => ?_
 refine wr ?_
 refine u_step (g_box rfl fun o2 hb2 hk2 => ?_)
 have hM_2 := (hk2 _ (by omega)).trans hM
 refine u_step (g_alloc th27 rfl fun o3 hb3 hk3 => ?_)
 have hM_3 := (hk3 _ (by omega)).trans hM_2
 have hb2_3 := (hk3 _ (by omega)).trans hb2
 refine u_nil ?_
 refine WP.seq fun K4 hK4 => ?_
 refine wr ?_
 refine u_step (o_moveV (v := .loc _ _) rfl ?_)
 refine u_step (g_mcall (s92 s 4096) hM_3 rfl fun o6 hb6 hk6 => ?_)
 have hb2_6 := (hk6 _ (by omega)).trans hb2_3
 have hb3_6 := (hk6 _ (by omega)).trans hb3
 refine um ?_
 refine u_nil ?_
 refine WP.block ?_
 refine WP.loopL (ι := Nat × SB × List Val × List Str × SV × Option Nat × SV × Option Nat × Nat × Nat × (Nat → Option AO) × Nat) (fun ⟨i, s1, xs, ns, c, q, c2, q2, a, b, o2, nk2⟩ => ⟨al [(0, .loc k 0), (2, .d (.int .i64 e)), (4, .loc nk 0), (6, .loc (nk + 1) 0), (8, .d (.int .i64 (cntS s 4096).1)), (9, .d (.int .i64 i))], o2, nk2⟩) (fun ⟨i, s1, xs, ns, c, q, c2, q2, a, b, o2, nk2⟩ => i ≤ (cntS s 4096).1.toNat ∧ nk + 2 ≤ nk2 ∧ s1.1.length ≤ 4611686018427387904 ∧ xs.length ≤ i ∧ ns.length ≤ i ∧ rdIs (rdV e) (decide (kd = 7)) ((cntS s 4096).1.toNat - i) s1 xs ns = rdIs (rdV e) (decide (kd = 7)) (cntS s 4096).1.toNat (cntS s 4096).2 [] [] ∧ o2 k = some (.box (srcS s1)) ∧ o2 nk = some (.box [.d (.int .i64 kd), .d (.int .i64 0), .d (.str []), c, c2]) ∧ o2 (nk + 1) = some (.box [.d (.int .i64 0), .d (.int .i64 0), .d (.str []), .d .nil, .d .nil]) ∧ dstOf o2 27 5 c = some (q, encVs xs) ∧ (∀ t, q = some t → nk + 2 ≤ t ∧ t < nk2 ∧ t = a) ∧ dstOf o2 9 1 c2 = some (q2, ns.map .str) ∧ (∀ t, q2 = some t → nk + 2 ≤ t ∧ t < nk2 ∧ t = b) ∧ a < nk2 ∧ b < nk2 ∧ a ≠ b ∧ ∀ t, t < nk ∧ t ≠ k → o2 t = o t) (fun ⟨i, s1, xs, ns, c, q, c2, q2, a, b, o2, nk2⟩ => (cntS s 4096).1.toNat - i) (fun ⟨i, s1, xs, ns, c, q, c2, q2, a, b, o2, nk2⟩ hA => ?_) ⟨0, (cntS s 4096).2, [], [], .d .nil, none, .d .nil, none, 0, 1, o6, ((nk + 1) + 1)⟩ ?_ ?_
 ·
  obtain ⟨hle, hnk, hsl, hxl, hnl, heq, hsk, hob, hzb, hd, hq, hd2, hq2, hal, hbl, hab, hfr⟩ := hA
  refine wr ?_
  refine ub ?_
  refine u_nil ?_
  refine WP.seq fun K8 hK8 => ?_
  refine wc (fun hc9 => ?_) (fun hc9 => ?_) <;> try simp only [Q0, Q1, Q2, Q3, Q4, Q5, Q6, Q7, Q8, ge_iff_le, gt_iff_lt] at hc9
  ·
   have hlt : i < (cntS s 4096).1.toNat := by have hq := hc9; (try simp at hq); omega
   refine WP.skip ?_
   refine hK8 _ ?_
   refine WP.seq fun K10 hK10 => ?_
   refine WP.block ?_
   refine WP.seq fun K11 hK11 => ?_
   refine wr ?_
   refine u_step (o_moveV (v := .loc _ _) rfl ?_)
   refine u_step (o_scall (s41 s1 hsk) rfl ?_)
   refine u_nil ?_
   refine wc (fun hc13 => ?_) (fun hc13 => ?_) <;> try simp only [Q0, Q1, Q2, Q3, Q4, Q5, Q6, Q7, Q8, ge_iff_le, gt_iff_lt] at hc13
   ·
    have hbad : s1.2 = true := by simpa using hc13
    have hfin : rdIs (rdV e) (decide (kd = 7)) (cntS s 4096).1.toNat (cntS s 4096).2 [] [] = (xs, ns, s1) := by rw [← heq]; exact rdIs_bad hbad
    refine WP.exit ?_
    refine hK4 _ ?_
    refine WP.frzC2 (pre := [.d (.int .i64 kd), .d (.int .i64 0), .d (.str [])]) (post := []) [(4, .loc nk 0), (6, .loc (nk + 1) 0)] nk hob hd hd2 (fun t h1 h2 => by have := hq t h1; have := hq2 t h2; omega) (Nat.le_refl _) (fun t d => ⟨rfl, rfl⟩) (fun t d => by simp only [List.forall_mem_cons]; exact ⟨⟨rfl, rfl⟩, ⟨rfl, rfl⟩, by simp⟩) (by simp only [List.forall_mem_cons]; exact ⟨rfl, rfl, by simp⟩) (by simp only [List.forall_mem_cons]; exact ⟨rfl, rfl, by simp⟩) fun o9 hB9 hk9 hm9 => ?_
    have hZ9 := hm9 _ _ (by omega) hzb fun t d => rfl
    have hF9 : ∀ t, t < nk → o9 t = o2 t := fun t ht => hk9 t ht (fun h => by have := hq t h; omega) (fun h => by have := hq2 t h; omega)
    have hM9 := (hF9 _ hkn).trans hsk
    refine wr ?_
    refine ug th27 hB9 ?_
    refine u_step0 (g_sta rfl rfl th27 rfl hZ9 (by first | (simp; done) | (simp [D.leaves, D.width, valCells]; done) | decide) fun o15 hb15 hk15 => ?_)
    have hM9_15 := (hk15 _ (by omega)).trans hM9
    have hB9_15 := (hk15 _ (by omega)).trans hB9
    refine u_nil ?_
    refine WP.ret ?_
    refine retCM_ok (resis_agg rfl th27 rfl hb15 rfl rfl rfl) ?_ (by omega) (by rw [hfin]; exact hM9_15) (fun t ht => (hk15 t (by omega)).trans ((hF9 t (by omega)).trans ((hfr t (by omega)))))
    rw [hfin]; exact D.le_refl _
   ·
    have hbad : ¬ s1.2 = true := by simpa using hc13
    refine WP.skip ?_
    refine hK11 _ ?_
    refine WP.seq fun K16 hK16 => ?_
    refine wr ?_
    refine uf th27 th3 hob ?_
    refine ul th3 hob ?_
    refine ub ?_
    refine u_nil ?_
    refine wc (fun hc18 => ?_) (fun hc18 => ?_) <;> try simp only [Q0, Q1, Q2, Q3, Q4, Q5, Q6, Q7, Q8, ge_iff_le, gt_iff_lt] at hc18
    ·
     have h7 : decide (kd = 7) = true := by simpa using hc18
     refine WP.dr3 [.q 0 1, .q 0 1, .q 0 0, .w 0, .q 1 1, .w 1, .q 2 2, .w 2] [3, 5, 7] nk2 (nk2 + 1) (nk2 + 1) tabOk (by kernel_rfl) rfl (by kernel_rfl) (by kernel_rfl) ?_
     apply Exists.intro
     apply Exists.intro
     apply Exists.intro
     refine e_step2 rfl rfl (o_fa_loc rfl th27 rfl rfl th22 (by decide) hob ⟨rfl, rfl, rfl⟩) ?_ ?_
     rotate_left
     refine e_step2 rfl rfl (o_ld_locV rfl th22 rfl hob rfl ⟨rfl, rfl, rfl⟩) ?_ ?_
     rotate_left
     refine e_step rfl (o_moveV (v := .loc _ _) rfl ⟨rfl, rfl, rfl⟩) ?_
     refine e_w rfl rfl (w_mcall (s107 s1 32 (by omega)) hsk rfl ⟨rfl, rfl, rfl⟩) ?_
     refine e_step rfl (o_bs rfl th22 rfl th9 rfl rfl (by decide) rfl (by decide) (by decide) ⟨rfl, rfl, rfl⟩) ?_
     refine e_w rfl rfl (w_apD rfl th22 rfl th9 rfl rfl (by decide) rfl (dst_keep hd2 fun t e => (by have := hq2 t e; exact upd_ne _ _ (by omega))) (by simp only [List.length_map, List.length_cons, List.length_nil]; omega) (by simp only [List.length_map, List.length_cons, List.length_nil]; omega) ⟨rfl, rfl, rfl⟩) ?_
     refine e_step rfl (o_fa_loc rfl th27 rfl rfl th22 (by decide) (((upd_ne _ _ (by omega)).trans (killo_ne (fun e => by have := hq2 _ e; omega))).trans ((upd_ne _ _ (by omega)).trans hob)) ⟨rfl, rfl, rfl⟩) ?_
     refine e_w0 rfl rfl (w_stV rfl rfl (upd_same _ _ _) th22 rfl (((upd_ne _ _ (by omega)).trans (killo_ne (fun e => by have := hq2 _ e; omega))).trans ((upd_ne _ _ (by omega)).trans hob)) (by simp) ⟨rfl, rfl, rfl⟩) ?_
     refine e_nil rfl fun o22 ho22 => ?_
     have hbZ_22 := (ho22 _).trans ((upd_ne _ _ (by omega)).trans (((upd_ne _ _ (by omega)).trans (killo_ne (fun e => by have := hq2 _ e; omega))).trans ((upd_ne _ _ (by omega)).trans hzb)))
     have hdC_22 := dst_keep (o' := o22) hd fun t e => (by have := hq t e; exact (ho22 t).trans ((upd_ne _ _ (by omega)).trans (((upd_ne _ _ (by omega)).trans (killo_ne (fun e => by have := hq2 _ e; omega))).trans (upd_ne _ _ (by omega)))))
     have hbM_22 := (ho22 _).trans ((upd_ne _ _ (by omega)).trans (((upd_ne _ _ (by omega)).trans (killo_ne (fun e => by have := hq2 _ e; omega))).trans (upd_same _ _ _)))
     have hbr20_22 := (ho22 _).trans ((upd_ne _ _ (by omega)).trans (upd_same _ _ _))
     have hbB_22 := (ho22 _).trans (upd_same _ _ _)
     have hk22 : ∀ t, t < nk ∧ t ≠ k → o22 t = o2 t := fun t ht => (ho22 t).trans ((upd_ne _ _ (by omega)).trans (((upd_ne _ _ (by omega)).trans (killo_ne (fun e => by have := hq2 _ e; omega))).trans (upd_ne _ _ (by omega))))
     ·
      refine hK16 _ ?_
      refine WP.dr3 [.q 0 1, .q 0 1, .q 0 0, .q 0 0, .w 0, .q 1 1, .w 1, .q 2 2, .w 2] [4, 6, 8] (nk2 + 1) ((nk2 + 1) + 1) ((nk2 + 1) + 1) tabOk (by kernel_rfl) rfl (by kernel_rfl) (by kernel_rfl) ?_
      apply Exists.intro
      apply Exists.intro
      apply Exists.intro
      refine e_step2 rfl rfl (o_fa_loc rfl th27 rfl rfl th25 (by decide) hbB_22 ⟨rfl, rfl, rfl⟩) ?_ ?_
      rotate_left
      refine e_step2 rfl rfl (o_ld_locV rfl th25 rfl hbB_22 rfl ⟨rfl, rfl, rfl⟩) ?_ ?_
      rotate_left
      refine e_step rfl (o_moveV (v := .loc _ _) rfl ⟨rfl, rfl, rfl⟩) ?_
      refine e_step rfl (o_move rfl ⟨rfl, rfl, rfl⟩) ?_
      refine e_w rfl rfl (w_mcall (ih _ (by have := txt_le s1 32; omega)) hbM_22 rfl ⟨rfl, rfl, rfl⟩) ?_
      first | refine e_step rfl (o_bs rfl th25 rfl th27 rfl rfl (by decide) rfl (by decide) (by decide) ⟨rfl, rfl, rfl⟩) ?_ | refine e_step rfl (o_bs1 rfl (by simp only [encV_width]) th25 rfl th27 rfl rfl (by decide) (by decide) ⟨rfl, rfl, rfl⟩) ?_
      refine e_w rfl rfl (w_apD rfl th25 rfl th27 rfl rfl (by decide) rfl (dst_keep hdC_22 fun t e => (by have := hq t e; exact upd_ne _ _ (by omega))) (by simp only [encVs_length, List.length_cons, List.length_nil]; omega) (by simp only [encVs_length, List.length_cons, List.length_nil]; omega) ⟨rfl, rfl, rfl⟩) ?_
      refine e_step rfl (o_fa_loc rfl th27 rfl rfl th25 (by decide) (((upd_ne _ _ (by omega)).trans (killo_ne (fun e => by have := hq _ e; omega))).trans ((upd_ne _ _ (by omega)).trans hbB_22)) ⟨rfl, rfl, rfl⟩) ?_
      refine e_w0 rfl rfl (w_stV rfl rfl (upd_same _ _ _) th25 rfl (((upd_ne _ _ (by omega)).trans (killo_ne (fun e => by have := hq _ e; omega))).trans ((upd_ne _ _ (by omega)).trans hbB_22)) (by simp) ⟨rfl, rfl, rfl⟩) ?_
      refine e_nil rfl fun o26 ho26 => ?_
      have hbZ_26 := (ho26 _).trans ((upd_ne _ _ (by omega)).trans (((upd_ne _ _ (by omega)).trans (killo_ne (fun e => by have := hq _ e; omega))).trans ((upd_ne _ _ (by omega)).trans hbZ_22)))
      have hbr20_26 := (ho26 _).trans ((upd_ne _ _ (by omega)).trans (((upd_ne _ _ (by omega)).trans (killo_ne (fun e => by have := hq _ e; omega))).trans ((upd_ne _ _ (by omega)).trans hbr20_22)))
      have hbM_26 := (ho26 _).trans ((upd_ne _ _ (by omega)).trans (((upd_ne _ _ (by omega)).trans (killo_ne (fun e => by have := hq _ e; omega))).trans (upd_same _ _ _)))
      have hbr24_26 := (ho26 _).trans ((upd_ne _ _ (by omega)).trans (upd_same _ _ _))
      have hbB_26 := (ho26 _).trans (upd_same _ _ _)
      have hk26 : ∀ t, t < nk ∧ t ≠ k → o26 t = o22 t := fun t ht => (ho26 t).trans ((upd_ne _ _ (by omega)).trans (((upd_ne _ _ (by omega)).trans (killo_ne (fun e => by have := hq _ e; omega))).trans (upd_ne _ _ (by omega))))
      ·
       refine hK10 _ ?_
       refine WP.reg tabOk rfl ?_
       refine ub ?_
       refine um ?_
       refine u_nil ?_
       -- back
       refine ⟨⟨i + 1, (rdV e (txtS s1 32).2).2, xs ++ [(rdV e (txtS s1 32).2).1], ns ++ [(txtS s1 32).1], .row _, some _, .row _, some _, _, _, o26, ((nk2 + 1) + 1)⟩, ⟨by omega, by omega, by have := rdV_le e (txtS s1 32).2; have := txt_le s1 32; omega, by simp; omega, by simp; omega, ?_, hbM_26, hbB_26, hbZ_26, (encVs_app xs _).symm ▸ dst_row hbr24_26, fun t e => by injection e with e; exact ⟨by omega, by omega, e.symm⟩, (List.map_append (f := D.str) (l₁ := ns) (l₂ := [(txtS s1 32).1])).symm ▸ dst_row hbr20_26, fun t e => by injection e with e; exact ⟨by omega, by omega, e.symm⟩, by omega, by omega, by omega, (fun t ht => (hk26 t (by omega)).trans ((hk22 t (by omega)).trans ((hfr t (by omega)))))⟩, by simp only; omega, Le.al ?_⟩
       · rw [← heq, show (cntS s 4096).1.toNat - i = ((cntS s 4096).1.toNat - (i + 1)) + 1 by omega]; exact (rdIs_doc h7 hbad).symm
       · simp only [List.forall_mem_cons]
         exact ⟨rfl, rfl, rfl, rfl, rfl, cnt (by omega), by simp⟩
      exact o_fa_loc rfl th27 rfl rfl th25 (by decide) ((upd_ne _ _ (by omega)).trans hbB_22) ⟨rfl, rfl, rfl⟩
      exact o_ld_locV rfl th25 rfl ((upd_ne _ _ (by omega)).trans hbB_22) rfl ⟨rfl, rfl, rfl⟩
     exact o_fa_loc rfl th27 rfl rfl th22 (by decide) ((upd_ne _ _ (by omega)).trans hob) ⟨rfl, rfl, rfl⟩
     exact o_ld_locV rfl th22 rfl ((upd_ne _ _ (by omega)).trans hob) rfl ⟨rfl, rfl, rfl⟩
    ·
     have h7 : ¬ decide (kd = 7) = true := by simpa using hc18
     refine WP.skip ?_
     refine hK16 _ ?_
     refine WP.dr3 [.q 0 1, .q 0 1, .q 0 0, .q 0 0, .w 0, .q 1 1, .w 1, .q 2 2, .w 2] [4, 6, 8] nk2 (nk2 + 1) (nk2 + 1) tabOk (by kernel_rfl) rfl (by kernel_rfl) (by kernel_rfl) ?_
     apply Exists.intro
     apply Exists.intro
     apply Exists.intro
     refine e_step2 rfl rfl (o_fa_loc rfl th27 rfl rfl th25 (by decide) hob ⟨rfl, rfl, rfl⟩) ?_ ?_
     rotate_left
     refine e_step2 rfl rfl (o_ld_locV rfl th25 rfl hob rfl ⟨rfl, rfl, rfl⟩) ?_ ?_
     rotate_left
     refine e_step rfl (o_moveV (v := .loc _ _) rfl ⟨rfl, rfl, rfl⟩) ?_
     refine e_step rfl (o_move rfl ⟨rfl, rfl, rfl⟩) ?_
     refine e_w rfl rfl (w_mcall (ih _ (by have := txt_le s1 32; omega)) hsk rfl ⟨rfl, rfl, rfl⟩) ?_
     first | refine e_step rfl (o_bs rfl th25 rfl th27 rfl rfl (by decide) rfl (by decide) (by decide) ⟨rfl, rfl, rfl⟩) ?_ | refine e_step rfl (o_bs1 rfl (by simp only [encV_width]) th25 rfl th27 rfl rfl (by decide) (by decide) ⟨rfl, rfl, rfl⟩) ?_
     refine e_w rfl rfl (w_apD rfl th25 rfl th27 rfl rfl (by decide) rfl (dst_keep hd fun t e => (by have := hq t e; exact upd_ne _ _ (by omega))) (by simp only [encVs_length, List.length_cons, List.length_nil]; omega) (by simp only [encVs_length, List.length_cons, List.length_nil]; omega) ⟨rfl, rfl, rfl⟩) ?_
     refine e_step rfl (o_fa_loc rfl th27 rfl rfl th25 (by decide) (((upd_ne _ _ (by omega)).trans (killo_ne (fun e => by have := hq _ e; omega))).trans ((upd_ne _ _ (by omega)).trans hob)) ⟨rfl, rfl, rfl⟩) ?_
     refine e_w0 rfl rfl (w_stV rfl rfl (upd_same _ _ _) th25 rfl (((upd_ne _ _ (by omega)).trans (killo_ne (fun e => by have := hq _ e; omega))).trans ((upd_ne _ _ (by omega)).trans hob)) (by simp) ⟨rfl, rfl, rfl⟩) ?_
     refine e_nil rfl fun o30 ho30 => ?_
     have hbZ_30 := (ho30 _).trans ((upd_ne _ _ (by omega)).trans (((upd_ne _ _ (by omega)).trans (killo_ne (fun e => by have := hq _ e; omega))).trans ((upd_ne _ _ (by omega)).trans hzb)))
     have hdE_30 := dst_keep (o' := o30) hd2 fun t e => (by have := hq2 t e; exact (ho30 t).trans ((upd_ne _ _ (by omega)).trans (((upd_ne _ _ (by omega)).trans (killo_ne (fun e => by have := hq _ e; omega))).trans (upd_ne _ _ (by omega)))))
     have hbM_30 := (ho30 _).trans ((upd_ne _ _ (by omega)).trans (((upd_ne _ _ (by omega)).trans (killo_ne (fun e => by have := hq _ e; omega))).trans (upd_same _ _ _)))
     have hbr28_30 := (ho30 _).trans ((upd_ne _ _ (by omega)).trans (upd_same _ _ _))
     have hbB_30 := (ho30 _).trans (upd_same _ _ _)
     have hk30 : ∀ t, t < nk ∧ t ≠ k → o30 t = o2 t := fun t ht => (ho30 t).trans ((upd_ne _ _ (by omega)).trans (((upd_ne _ _ (by omega)).trans (killo_ne (fun e => by have := hq _ e; omega))).trans (upd_ne _ _ (by omega))))
     ·
      refine hK10 _ ?_
      refine WP.reg tabOk rfl ?_
      refine ub ?_
      refine um ?_
      refine u_nil ?_
      -- back
      refine ⟨⟨i + 1, (rdV e s1).2, xs ++ [(rdV e s1).1], ns, .row _, some _, c2, q2, _, b, o30, (nk2 + 1)⟩, ⟨by omega, by omega, by have := rdV_le e s1; omega, by simp; omega, by omega, ?_, hbM_30, hbB_30, hbZ_30, (encVs_app xs _).symm ▸ dst_row hbr28_30, fun t e => by injection e with e; exact ⟨by omega, by omega, e.symm⟩, hdE_30, fun t e => by have := hq2 t e; omega, by omega, by omega, by omega, (fun t ht => (hk30 t (by omega)).trans ((hfr t (by omega))))⟩, by simp only; omega, Le.al ?_⟩
      · rw [← heq, show (cntS s 4096).1.toNat - i = ((cntS s 4096).1.toNat - (i + 1)) + 1 by omega]; exact (rdIs_arr h7 hbad).symm
      · simp only [List.forall_mem_cons]
        exact ⟨rfl, rfl, rfl, rfl, rfl, cnt (by omega), by simp⟩
     exact o_fa_loc rfl th27 rfl rfl th25 (by decide) ((upd_ne _ _ (by omega)).trans hob) ⟨rfl, rfl, rfl⟩
     exact o_ld_locV rfl th25 rfl ((upd_ne _ _ (by omega)).trans hob) rfl ⟨rfl, rfl, rfl⟩
  ·
   have hge : (cntS s 4096).1.toNat - i = 0 := by have hq := hc9; (try simp at hq); omega
   have hfin : rdIs (rdV e) (decide (kd = 7)) (cntS s 4096).1.toNat (cntS s 4096).2 [] [] = (xs, ns, s1) := by rw [← heq, hge]; rfl
   refine WP.exit ?_
   refine hK4 _ ?_
   refine WP.frzC2 (pre := [.d (.int .i64 kd), .d (.int .i64 0), .d (.str [])]) (post := []) [(4, .loc nk 0), (6, .loc (nk + 1) 0)] nk hob hd hd2 (fun t h1 h2 => by have := hq t h1; have := hq2 t h2; omega) (Nat.le_refl _) (fun t d => ⟨rfl, rfl⟩) (fun t d => by simp only [List.forall_mem_cons]; exact ⟨⟨rfl, rfl⟩, ⟨rfl, rfl⟩, by simp⟩) (by simp only [List.forall_mem_cons]; exact ⟨rfl, rfl, by simp⟩) (by simp only [List.forall_mem_cons]; exact ⟨rfl, rfl, by simp⟩) fun o9 hB9 hk9 hm9 => ?_
   have hZ9 := hm9 _ _ (by omega) hzb fun t d => rfl
   have hF9 : ∀ t, t < nk → o9 t = o2 t := fun t ht => hk9 t ht (fun h => by have := hq t h; omega) (fun h => by have := hq2 t h; omega)
   have hM9 := (hF9 _ hkn).trans hsk
   refine wr ?_
   refine ug th27 hB9 ?_
   refine u_step0 (g_sta rfl rfl th27 rfl hZ9 (by first | (simp; done) | (simp [D.leaves, D.width, valCells]; done) | decide) fun o32 hb32 hk32 => ?_)
   have hM9_32 := (hk32 _ (by omega)).trans hM9
   have hB9_32 := (hk32 _ (by omega)).trans hB9
   refine u_nil ?_
   refine WP.ret ?_
   refine retCM_ok (resis_agg rfl th27 rfl hb32 rfl rfl rfl) ?_ (by omega) (by rw [hfin]; exact hM9_32) (fun t ht => (hk32 t (by omega)).trans ((hF9 t (by omega)).trans ((hfr t (by omega)))))
   rw [hfin]; exact D.le_refl _
 ·
  refine ⟨by omega, by omega, by omega, by simp, by simp, rfl, hb6, hb2_6, hb3_6, rfl, by simp, rfl, by simp, by omega, by omega, by decide, (fun t ht => (hk6 t (by omega)).trans ((hk3 t (by omega)).trans ((hk2 t (by omega)))))⟩
 ·
  refine Le.al ?_
  simp only [List.forall_mem_cons]
  exact ⟨rfl, rfl, rfl, rfl, rfl, rfl, by simp⟩

end Go.Proofs.YtpkcbdhjnnnkbaaGreat.Abs

set_option linter.unusedVariables false
set_option linter.unusedSimpArgs false
set_option maxRecDepth 10000
set_option maxHeartbeats 1000000
namespace Go.Proofs.YtpkcbdhjnnnkbaaGreat.Abs
open Go
/-- How much a source still holds; a bad one a little less. -/
def pot (s : SB) : Nat := s.1.length + (if s.2 = true then 0 else 2)
theorem pot_no (b : List UInt8) : pot (b, true) = b.length := rfl
theorem pot_ok (b : List UInt8) : pot (b, false) = b.length + 2 := rfl
theorem pot_bad {s : SB} (h : s.2 = true) : pot s = s.1.length := by unfold pot; rw [if_pos h]; rfl
theorem pot_good {s : SB} (h : s.2 = false) : pot s = s.1.length + 2 := by unfold pot; rw [if_neg (by rw [h]; decide)]
theorem pot_byte (s : SB) : pot (rdByte s).2 + (if s.2 = true then 0 else 1) ≤ pot s := by
  cases hb : s.2 with
  | true => rw [rdByte_no (.inl hb)]; rw [pot_no, pot_bad hb]; simp
  | false =>
    rcases Nat.eq_zero_or_pos s.1.length with hz | hz
    · rw [rdByte_no (.inr (List.length_eq_zero_iff.1 hz)), pot_no, pot_good hb]; simp
    · rw [rdByte_ok hb hz, pot_ok, pot_good hb]; simp; omega
theorem pot_take (s : SB) (n : Nat) (r : Bool) : pot (takeS s n r).2 ≤ pot s := by
  unfold takeS
  split
  · rw [pot_no]; unfold pot; omega
  · rename_i h
    have hb : s.2 = false := by cases hb : s.2 with
      | false => rfl
      | true => exact absurd (.inl hb) h
    rw [pot_ok, pot_good hb]; simp
theorem pot_cnt (s : SB) (m : Int) : pot (cntS s m).2 ≤ pot s := pot_take _ _ _
theorem pot_int (s : SB) : pot (intS s).2 ≤ pot s := pot_take _ _ _
theorem pot_txt (s : SB) (m : Int) (hx : s.1.length ≤ 4611686018427387904) : (txtS s m).1.length + pot (txtS s m).2 + (if s.2 = true then 0 else 1) ≤ pot s := by
  cases h : txtBad s m with
  | true =>
    rw [txtS_no h, pot_no]
    cases hb : s.2 with
    | true => rw [pot_bad hb]; simp
    | false => rw [pot_good hb]; simp
  | false =>
    have hf := txt_fits (by omega) h
    have h0 : ¬ (gP s).2 = 0 := by
      simp only [txtBad, Bool.or_eq_false_iff, decide_eq_false_iff_not, beq_eq_false_iff_ne, ne_eq] at h
      have := h.2
      omega
    rw [txtS_ok h, pot_ok, pot_good hf.1, hf.1]
    simp only [List.length_drop, List.length_take, Bool.false_eq_true, if_false]
    omega
theorem szN_app (ns : List Str) (t : Str) : szN (ns ++ [t]) = szN ns + (t.length + 1) := by
  induction ns with
  | nil => simp [szN]
  | cons a r ih => simp only [List.cons_append, szN, ih]; omega
theorem szVs_app (xs : List Val) (v : Val) : szVs (xs ++ [v]) = szVs xs + szV v := by
  induction xs with
  | nil => simp [szVs]
  | cons a r ih => simp only [List.cons_append, szVs, ih]; omega
theorem rngVs_app (xs : List Val) (v : Val) (h : rngVs xs) (hv : rngV v) : rngVs (xs ++ [v]) := by
  induction xs with
  | nil => exact ⟨hv, trivial⟩
  | cons a r ih => exact ⟨h.1, ih h.2⟩
theorem rdIs_sz {rd : SB → Val × SB} (hle : ∀ s, (rd s).2.1.length ≤ s.1.length) (hrd : ∀ s, s.1.length ≤ 4611686018427387904 → szV (rd s).1 + pot (rd s).2 ≤ pot s + (if s.2 = true then 1 else 0)) (doc : Bool) : ∀ (n : Nat) (s : SB) (xs : List Val) (ns : List Str), s.1.length ≤ 4611686018427387904 →
    szVs (rdIs rd doc n s xs ns).1 + szN (rdIs rd doc n s xs ns).2.1 + pot (rdIs rd doc n s xs ns).2.2 ≤ szVs xs + szN ns + pot s
  | 0, s, xs, ns, hx => Nat.le_refl _
  | n + 1, s, xs, ns, hx => by
    cases hb : s.2 with
    | true => rw [rdIs_bad hb]; exact Nat.le_refl _
    | false =>
      have hb' : ¬ s.2 = true := by rw [hb]; decide
      cases doc with
      | true =>
        rw [rdIs_doc rfl hb']
        have h1 := txt_le s 32
        have h2 := hrd (txtS s 32).2 (by omega)
        have h3 := pot_txt s 32 hx
        have h4 := rdIs_sz hle hrd true n (rd (txtS s 32).2).2 (xs ++ [(rd (txtS s 32).2).1]) (ns ++ [(txtS s 32).1]) (by have := hle (txtS s 32).2; omega)
        rw [szVs_app, szN_app] at h4
        rw [if_neg hb'] at h3
        have h5 : (txtS s 32).1.length + pot (txtS s 32).2 + (if (txtS s 32).2.2 = true then 1 else 0) + 1 ≤ pot s := by
          cases hz : txtBad s 32 with
          | true => rw [txtS_no hz, pot_no, pot_good hb]; simp
          | false => rw [txtS_ok hz] at h3 ⊢; simp at h3 ⊢; omega
        omega
      | false =>
        rw [rdIs_arr (by decide) hb']
        have h2 := hrd s hx
        have h4 := rdIs_sz hle hrd false n (rd s).2 (xs ++ [(rd s).1]) ns (by have := hle s; omega)
        rw [szVs_app] at h4
        rw [if_neg hb'] at h2
        omega
theorem rdV_sz : ∀ (d : Nat) (s : SB), s.1.length ≤ 4611686018427387904 → szV (rdV d s).1 + pot (rdV d s).2 ≤ pot s + (if s.2 = true then 1 else 0)
  | 0, s, hx => by
    have h1 := pot_byte s
    have h2 : pot ((rdByte s).2.1, true) ≤ pot (rdByte s).2 := by rw [pot_no]; unfold pot; omega
    simp only [rdV, szV, szVs, szN, List.length_nil]
    split at h1 <;> simp_all <;> omega
  | d + 1, s, hx => by
    have h1 := pot_byte s
    have hb := byte_le s
    have h2 : pot ((rdByte s).2.1, true) ≤ pot (rdByte s).2 := by rw [pot_no]; unfold pot; omega
    have h3 := pot_byte (rdByte s).2
    have h4 := pot_int (rdByte s).2
    have h5 := pot_txt (rdByte s).2 4096 (by omega)
    have h6 := pot_cnt (rdByte s).2 4096
    have h7 := rdIs_sz (rd := rdV d) (rdV_le d) (rdV_sz d) (decide ((rdByte s).1 = 7)) (cntS (rdByte s).2 4096).1.toNat (cntS (rdByte s).2 4096).2 [] [] (by have := cnt_le (rdByte s).2 4096; omega)
    simp only [szVs, szN] at h7
    have h8 : 1 + pot (rdByte s).2 ≤ pot s + (if s.2 = true then 1 else 0) := by split at h1 <;> simp_all <;> omega
    obtain ⟨q, hq⟩ : ∃ q : Nat, (if s.2 = true then 1 else 0) = q := ⟨_, rfl⟩
    rw [hq] at h8 ⊢
    clear h1 hq
    simp only [rdV]
    repeat' split
    all_goals simp only [szV, szVs, szN, List.length_nil]
    all_goals omega
theorem rngs_rdIs {rd : SB → Val × SB} (hrd : ∀ s, rngV (rd s).1) (doc : Bool) : ∀ (n : Nat) (s : SB) (xs : List Val) (ns : List Str), rngVs xs → rngVs (rdIs rd doc n s xs ns).1
  | 0, s, xs, ns, h => h
  | n + 1, s, xs, ns, h => by
    simp only [rdIs]
    split
    · exact h
    · exact rngs_rdIs hrd doc n _ _ _ (rngVs_app _ _ h (hrd _))
theorem byte_rng (s : SB) : 0 ≤ (rdByte s).1 ∧ (rdByte s).1 ≤ 255 := by
  unfold rdByte
  split
  · simp
  · have := (s.1.headD 0).toNat_lt
    simp only
    omega
theorem int_rng (s : SB) : -9223372036854775808 ≤ (intS s).1 ∧ (intS s).1 ≤ 9223372036854775807 := by
  have h := (gP_len s).2.1
  unfold intS
  simp only
  split
  · unfold zagI; split <;> omega
  · omega
theorem rdV_rng : ∀ (d : Nat) (s : SB), rngV (rdV d s).1
  | 0, s => ⟨by omega, trivial⟩
  | d + 1, s => by
    have hb := byte_rng (rdByte s).2
    have hi := int_rng (rdByte s).2
    simp only [rdV]
    repeat' split
    · exact ⟨by omega, trivial⟩
    · exact ⟨by omega, trivial⟩
    · exact ⟨by omega, trivial⟩
    · exact ⟨by omega, trivial⟩
    · exact ⟨by omega, rngs_rdIs (rdV_rng d) _ _ _ _ _ trivial⟩
    · exact ⟨by omega, trivial⟩
theorem rd151 : ∀ (d : Nat), d ≤ 8 → ∀ s : SB, s.1.length ≤ 4611686018427387904 → MSpec Tryz.prog 151 (fun k => [.loc k 0, .d (.int .i64 d)]) (srcS s) (srcS (rdV d s).2) (.d (encV (rdV d s).1))
  | 0, hd, s, hx => s151 0 hd s hx (fun e he => by omega)
  | d + 1, hd, s, hx => s151 (d + 1) hd s hx (fun e he kd s hx => s180 e (fun s hx => by
      have h : e = d := by omega
      rw [h]; exact rd151 d (by omega) s hx) kd s hx)
/-- A whole value, as the program reads it. -/
def rdAll (s : SB) : Val × SB := if (rdV 8 s).2.2 = true ∨ ¬ checkV (rdV 8 s).1 = 0 then (.mk 0 0 [] [] [], ((rdV 8 s).2.1, true)) else rdV 8 s
theorem rdAll_no {s : SB} (h : (rdV 8 s).2.2 = true ∨ ¬ checkV (rdV 8 s).1 = 0) : rdAll s = (.mk 0 0 [] [] [], ((rdV 8 s).2.1, true)) := if_pos h
theorem rdAll_ok {s : SB} (h : ¬ ((rdV 8 s).2.2 = true ∨ ¬ checkV (rdV 8 s).1 = 0)) : rdAll s = rdV 8 s := if_neg h

theorem fn108 : FnOkC Tryz.prog 108 17 [.cell 2 27] (bodyOf Tryz.f108) := ⟨Tryz.f108, Tryz.func108, by kernel_rfl, by decide, by kernel_rfl, by kernel_rfl⟩
theorem s108 (s : SB) (hx : s.1.length ≤ 1048576) : MSpec Tryz.prog 108 (fun k => [.loc k 0]) (srcS s) (srcS (rdAll s).2) (.d (encV (rdAll s).1)) := by
 have hsz : szV (rdV 8 s).1 ≤ 1099511627776 := by
   have h1 := rdV_sz 8 s (by omega)
   have h2 : pot s ≤ s.1.length + 2 := by (unfold pot; split <;> omega)
   split at h1 <;> omega
 refine MSpec.ofC tabOk fn108 (fun _ => by simp) (fun _ => by first | exact srcS_lts _ _ | simp [SV.lts, SV.lt]) fun o nk k hkn hM => ?_
 refine wr ?_
 refine u_step (g_alloc th27 rfl fun o2 hb2 hk2 => ?_)
 have hM_2 := (hk2 _ (by omega)).trans hM
 refine u_nil ?_
 refine wr ?_
 refine u_step (o_moveV (v := .loc _ _) rfl ?_)
 refine u_step (g_mcall (rd151 8 (by decide) s (by omega)) hM_2 rfl fun o4 hb4 hk4 => ?_)
 have hb2_4 := (hk4 _ (by omega)).trans hb2
 refine u_step (g_alloc th27 rfl fun o5 hb5 hk5 => ?_)
 have hb2_5 := (hk5 _ (by omega)).trans hb2_4
 have hb4_5 := (hk5 _ (by omega)).trans hb4
 refine u_step0 (g_sta rfl (congrArg SV.d (encV_eq _)) th27 rfl hb5 (by simp [valCells]) fun o6 hb6 hk6 => ?_)
 have hb2_6 := (hk6 _ (by omega)).trans hb2_5
 have hb4_6 := (hk6 _ (by omega)).trans hb4_5
 refine u_nil ?_
 refine WP.seq fun K7 hK7 => ?_
 refine wr ?_
 refine u_step (o_moveV (v := .loc _ _) rfl ?_)
 refine u_step (o_scall (s41 _ hb4_6) rfl ?_)
 refine um ?_
 apply gF
 · rfl
 · intro hg
   exact pg th27 hb6
 apply gF
 · rfl
 · intro hg; try simp only [hg, ct]; try simp only [hg, ct, Bt]
   refine o_pcall (pv (s123 (rdV 8 s).1 (rdV_rng 8 s) hsz)) rfl ⟨rfl, rfl, rfl⟩
 apply gF
 · rfl
 · intro hg; try simp only [hg, ct]; try simp only [hg, ct, Bt]
   exact pb
 refine uO ?_
 refine u_nil ?_
 refine wc (fun hc9 => ?_) (fun hc9 => ?_) <;> try simp only [Q0, Q1, Q2, Q3, Q4, Q5, Q6, Q7, Q8, ge_iff_le, gt_iff_lt] at hc9
 ·
  have hz : (rdV 8 s).2.2 = true ∨ ¬ checkV (rdV 8 s).1 = 0 := by have hq := hc9; simpa using hq
  refine wr ?_
  refine u_step (o_moveV (v := .loc _ _) rfl ?_)
  refine u_step (g_mcall (s109 _) hb4_6 rfl fun o11 hb11 hk11 => ?_)
  have hb2_11 := (hk11 _ (by omega)).trans hb2_6
  have hb6_11 := (hk11 _ (by omega)).trans hb6
  refine u_nil ?_
  refine wr ?_
  refine u_step (o_bu rfl th27 rfl rfl ?_)
  refine u_step0 (g_sta rfl rfl th27 rfl hb2_11 (by first | (simp; done) | (simp [D.leaves, D.width, valCells]; done) | decide) fun o13 hb13 hk13 => ?_)
  have hb6_13 := (hk13 _ (by omega)).trans hb6_11
  have hb11_13 := (hk13 _ (by omega)).trans hb11
  refine u_nil ?_
  refine WP.ret ?_
  refine retCM_ok (resis_agg rfl th27 rfl hb13 rfl rfl rfl) ?_ (by omega) (by rw [rdAll_no hz]; exact hb11_13) (fun t ht => (hk13 t (by omega)).trans ((hk11 t (by omega)).trans ((hk6 t (by omega)).trans ((hk5 t (by omega)).trans ((hk4 t (by omega)).trans ((hk2 t (by omega))))))))
  rw [rdAll_no hz]; exact leV0 _ _ _
 ·
  have hz : ¬ ((rdV 8 s).2.2 = true ∨ ¬ checkV (rdV 8 s).1 = 0) := by have hq := hc9; simpa using hq
  refine WP.skip ?_
  refine hK7 _ ?_
  refine wr ?_
  refine ug th27 hb6 ?_
  refine u_step0 (g_sta rfl rfl th27 rfl hb2_6 (by first | (simp; done) | (simp [D.leaves, D.width, valCells]; done) | decide) fun o15 hb15 hk15 => ?_)
  have hb4_15 := (hk15 _ (by omega)).trans hb4_6
  have hb6_15 := (hk15 _ (by omega)).trans hb6
  refine u_nil ?_
  refine WP.ret ?_
  refine retCM_ok (resis_agg rfl th27 rfl hb15 rfl rfl rfl) ?_ (by omega) (by rw [rdAll_ok hz]; exact hb4_15) (fun t ht => (hk15 t (by omega)).trans ((hk6 t (by omega)).trans ((hk5 t (by omega)).trans ((hk4 t (by omega)).trans ((hk2 t (by omega)))))))
  rw [rdAll_ok hz]; rw [encV_eq]; exact D.le_refl _

end Go.Proofs.YtpkcbdhjnnnkbaaGreat.Abs

set_option linter.unusedVariables false
set_option linter.unusedSimpArgs false
set_option maxRecDepth 10000
set_option maxHeartbeats 1000000
namespace Go.Proofs.YtpkcbdhjnnnkbaaGreat.Abs
open Go
/-- A value, as the document reads it. -/
def rdR : Nat → SB → Val × SB
  | 0, s => (.mk 0 0 [] [] [], ((rdByte s).2.1, true))
  | d + 1, s =>
    if (rdByte s).2.2 = true then (.mk 0 0 [] [] [], (rdByte s).2)
    else if (rdByte s).1 = 1 then (.mk (rdByte s).1 0 [] [] [], (rdByte s).2)
    else if (rdByte s).1 = 2 then (.mk (rdByte s).1 (rdByte (rdByte s).2).1 [] [] [], (rdByte (rdByte s).2).2)
    else if (rdByte s).1 = 3 then (.mk (rdByte s).1 (intS (rdByte s).2).1 [] [] [], (intS (rdByte s).2).2)
    else if (rdByte s).1 = 4 ∨ (rdByte s).1 = 5 then (.mk (rdByte s).1 0 (txtS (rdByte s).2 4096).1 [] [], (txtS (rdByte s).2 4096).2)
    else if (rdByte s).1 = 6 ∨ (rdByte s).1 = 7 then
      (.mk (rdByte s).1 0 [] (rdIs (rdR d) (decide ((rdByte s).1 = 7)) (cntS (rdByte s).2 4096).1.toNat (cntS (rdByte s).2 4096).2 [] []).1 (rdIs (rdR d) (decide ((rdByte s).1 = 7)) (cntS (rdByte s).2 4096).1.toNat (cntS (rdByte s).2 4096).2 [] []).2.1,
        (rdIs (rdR d) (decide ((rdByte s).1 = 7)) (cntS (rdByte s).2 4096).1.toNat (cntS (rdByte s).2 4096).2 [] []).2.2)
    else (.mk (rdByte s).1 0 [] [] [], ((rdByte s).2.1, true))
theorem rdR_le : ∀ (d : Nat) (s : SB), (rdR d s).2.1.length ≤ s.1.length
  | 0, s => byte_le s
  | d + 1, s => by
    have hb := byte_le s
    simp only [rdR]
    repeat' split
    · exact hb
    · exact hb
    · exact Nat.le_trans (byte_le _) hb
    · exact Nat.le_trans (int_le _) hb
    · exact Nat.le_trans (txt_le _ _) hb
    · exact Nat.le_trans (rdIs_le (rdR_le d) _ _ _ _ _) (Nat.le_trans (cnt_le _ _) hb)
    · exact hb
theorem rdR_sz : ∀ (d : Nat) (s : SB), s.1.length ≤ 4611686018427387904 → szV (rdR d s).1 + pot (rdR d s).2 ≤ pot s + (if s.2 = true then 1 else 0)
  | 0, s, hx => by
    have h1 := pot_byte s
    have h2 : pot ((rdByte s).2.1, true) ≤ pot (rdByte s).2 := by rw [pot_no]; unfold pot; omega
    simp only [rdR, szV, szVs, szN, List.length_nil]
    split at h1 <;> simp_all <;> omega
  | d + 1, s, hx => by
    have h1 := pot_byte s
    have hb := byte_le s
    have h2 : pot ((rdByte s).2.1, true) ≤ pot (rdByte s).2 := by rw [pot_no]; unfold pot; omega
    have h3 := pot_byte (rdByte s).2
    have h4 := pot_int (rdByte s).2
    have h5 := pot_txt (rdByte s).2 4096 (by omega)
    have h6 := pot_cnt (rdByte s).2 4096
    have h7 := rdIs_sz (rd := rdR d) (rdR_le d) (rdR_sz d) (decide ((rdByte s).1 = 7)) (cntS (rdByte s).2 4096).1.toNat (cntS (rdByte s).2 4096).2 [] [] (by have := cnt_le (rdByte s).2 4096; omega)
    simp only [szVs, szN] at h7
    have h8 : 1 + pot (rdByte s).2 ≤ pot s + (if s.2 = true then 1 else 0) := by split at h1 <;> simp_all <;> omega
    obtain ⟨q, hq⟩ : ∃ q : Nat, (if s.2 = true then 1 else 0) = q := ⟨_, rfl⟩
    rw [hq] at h8 ⊢
    clear h1 hq
    simp only [rdR]
    repeat' split
    all_goals simp only [szV, szVs, szN, List.length_nil]
    all_goals omega
theorem rdR_rng : ∀ (d : Nat) (s : SB), rngV (rdR d s).1
  | 0, s => ⟨by omega, trivial⟩
  | d + 1, s => by
    have hb := byte_rng (rdByte s).2
    have hi := int_rng (rdByte s).2
    simp only [rdR]
    repeat' split
    · exact ⟨by omega, trivial⟩
    · exact ⟨by omega, trivial⟩
    · exact ⟨by omega, trivial⟩
    · exact ⟨by omega, trivial⟩
    · exact ⟨by omega, trivial⟩
    · exact ⟨by omega, rngs_rdIs (rdR_rng d) _ _ _ _ _ trivial⟩
    · exact ⟨by omega, trivial⟩
/-- A whole value, as the document reads it. -/
def rdAllR (s : SB) : Val × SB := if s.2 = true then (.mk 0 0 [] [] [], s) else if (rdR 8 s).2.2 = true ∨ ¬ checkV (rdR 8 s).1 = 0 then (.mk 0 0 [] [] [], ((rdR 8 s).2.1, true)) else rdR 8 s
theorem rdAllR_bad {s : SB} (h : s.2 = true) : rdAllR s = (.mk 0 0 [] [] [], s) := if_pos h
theorem rdAllR_no {s : SB} (h0 : ¬ s.2 = true) (h : (rdR 8 s).2.2 = true ∨ ¬ checkV (rdR 8 s).1 = 0) : rdAllR s = (.mk 0 0 [] [] [], ((rdR 8 s).2.1, true)) := (if_neg h0).trans (if_pos h)
theorem rdAllR_ok {s : SB} (h0 : ¬ s.2 = true) (h : ¬ ((rdR 8 s).2.2 = true ∨ ¬ checkV (rdR 8 s).1 = 0)) : rdAllR s = rdR 8 s := (if_neg h0).trans (if_neg h)

theorem fn145 : FnOkC Tryz.prog 145 81 [.cell 4 27] (bodyOf Tryz.f145) := ⟨Tryz.f145, Tryz.func145, by kernel_rfl, by decide, by kernel_rfl, by kernel_rfl⟩
theorem s145z (s : SB) : MSpec Tryz.prog 145 (fun k => [.loc k 0, .d (.int .i64 0)]) (srcS s) (srcS (rdR 0 s).2) (.d (encV (rdR 0 s).1)) := by
 refine MSpec.ofC tabOk fn145 (fun _ => by simp) (fun _ => by first | exact srcS_lts _ _ | simp [SV.lts, SV.lt]) fun o nk k hkn hM => ?_
 refine wr ?_
 refine u_step (g_alloc th27 rfl fun o2 hb2 hk2 => ?_)
 have hM_2 := (hk2 _ (by omega)).trans hM
 refine u_nil ?_
 refine wr ?_
 refine u_step (o_moveV (v := .loc _ _) rfl ?_)
 refine u_step (g_mcall (s95 s) hM_2 rfl fun o4 hb4 hk4 => ?_)
 have hb2_4 := (hk4 _ (by omega)).trans hb2
 refine u_step (o_bu rfl th27 rfl rfl ?_)
 refine u_step (g_alloc th27 rfl fun o5 hb5 hk5 => ?_)
 have hb2_5 := (hk5 _ (by omega)).trans hb2_4
 have hb4_5 := (hk5 _ (by omega)).trans hb4
 refine u_step0 (g_sta rfl rfl th27 rfl hb5 (by first | (simp; done) | (simp [D.leaves, D.width, valCells]; done) | decide) fun o6 hb6 hk6 => ?_)
 have hb2_6 := (hk6 _ (by omega)).trans hb2_5
 have hb4_6 := (hk6 _ (by omega)).trans hb4_5
 refine u_nil ?_
 refine WP.seq fun K7 hK7 => ?_
 refine wr ?_
 refine um ?_
 refine ub ?_
 refine u_nil ?_
 refine wc (fun hc9 => ?_) (fun hc9 => ?_) <;> try simp only [Q0, Q1, Q2, Q3, Q4, Q5, Q6, Q7, Q8, ge_iff_le, gt_iff_lt] at hc9
 ·
  refine WP.reg tabOk rfl ?_
  refine u_step (o_moveV (v := .loc _ _) rfl ?_)
  refine u_step (o_nc rfl hb4_6 ?_)
  refine uf th63 th4 hb4_6 ?_
  refine u_step0 (g_st rfl rfl rfl th4 rfl hb4_6 (by first | (simp; done) | (simp [D.leaves, D.width]; done) | decide) fun o10 hb10 hk10 => ?_)
  have hb2_10 := (hk10 _ (by omega)).trans hb2_6
  have hb6_10 := (hk10 _ (by omega)).trans hb6
  refine u_nil ?_
  refine hK7 _ ?_
  refine WP.seq fun K11 hK11 => ?_
  refine wr ?_
  refine u_step (o_moveV (v := .loc _ _) rfl ?_)
  refine u_step (o_nc rfl hb10 ?_)
  refine uf th63 th4 hb10 ?_
  refine ul th4 hb10 ?_
  refine u_nil ?_
  refine wc (fun hc13 => ?_) (fun hc13 => ?_) <;> try simp only [Q0, Q1, Q2, Q3, Q4, Q5, Q6, Q7, Q8, ge_iff_le, gt_iff_lt] at hc13
  ·
   refine wr ?_
   refine u_step (o_bu rfl th27 rfl rfl ?_)
   refine u_step0 (g_sta rfl rfl th27 rfl hb2_10 (by first | (simp; done) | (simp [D.leaves, D.width, valCells]; done) | decide) fun o15 hb15 hk15 => ?_)
   have hb6_15 := (hk15 _ (by omega)).trans hb6_10
   have hb10_15 := (hk15 _ (by omega)).trans hb10
   refine u_nil ?_
   refine WP.ret ?_
   refine retCM_ok (resis_agg rfl th27 rfl hb15 rfl rfl rfl) ?_ (by omega) hb10_15 (fun t ht => (hk15 t (by omega)).trans ((hk10 t (by omega)).trans ((hk6 t (by omega)).trans ((hk5 t (by omega)).trans ((hk4 t (by omega)).trans ((hk2 t (by omega))))))))
   exact leV0 _ _ _
  ·
   simp at hc13
 ·
  simp at hc9

theorem s145 (d : Nat) (hdb : d ≤ 8) (ih : ∀ s : SB, s.1.length ≤ 4611686018427387904 → MSpec Tryz.prog 145 (fun k => [.loc k 0, .d (.int .i64 d)]) (srcS s) (srcS (rdR d s).2) (.d (encV (rdR d s).1))) (s : SB) (hx : s.1.length ≤ 4611686018427387904) : MSpec Tryz.prog 145 (fun k => [.loc k 0, .d (.int .i64 ((d + 1 : Nat) : Int))]) (srcS s) (srcS (rdR (d + 1) s).2) (.d (encV (rdR (d + 1) s).1)) := by
 have hb1 := byte_le s
 have hcr := cnt_rng (rdByte s).2 4096 (by decide)
 have hcl := cnt_le (rdByte s).2 4096
 have hde : IntKind.i64.wrap (((d + 1 : Nat) : Int) - 1) = (d : Int) := by rw [wrap_i64 (by omega) (by omega)]; omega
 refine MSpec.ofC tabOk fn145 (fun _ => by simp) (fun _ => by first | exact srcS_lts _ _ | simp [SV.lts, SV.lt]) fun o nk k hkn hM => ?_
 refine wr ?_
 refine u_step (g_alloc th27 rfl fun o2 hb2 hk2 => ?_)
 have hM_2 := (hk2 _ (by omega)).trans hM
 refine u_nil ?_
 refine wr ?_
 refine u_step (o_moveV (v := .loc _ _) rfl ?_)
 refine u_step (g_mcall (s95 s) hM_2 rfl fun o4 hb4 hk4 => ?_)
 have hb2_4 := (hk4 _ (by omega)).trans hb2
 refine u_step (o_bu rfl th27 rfl rfl ?_)
 refine u_step (g_alloc th27 rfl fun o5 hb5 hk5 => ?_)
 have hb2_5 := (hk5 _ (by omega)).trans hb2_4
 have hb4_5 := (hk5 _ (by omega)).trans hb4
 refine u_step0 (g_sta rfl rfl th27 rfl hb5 (by first | (simp; done) | (simp [D.leaves, D.width, valCells]; done) | decide) fun o6 hb6 hk6 => ?_)
 have hb2_6 := (hk6 _ (by omega)).trans hb2_5
 have hb4_6 := (hk6 _ (by omega)).trans hb4_5
 refine u_nil ?_
 refine WP.seq fun K7 hK7 => ?_
 refine wr ?_
 refine um ?_
 refine ub ?_
 refine u_nil ?_
 refine wc (fun hc9 => ?_) (fun hc9 => ?_) <;> try simp only [Q0, Q1, Q2, Q3, Q4, Q5, Q6, Q7, Q8, ge_iff_le, gt_iff_lt] at hc9
 ·
  have hq := hc9
  simp at hq
  omega
 ·
  refine WP.skip ?_
  refine hK7 _ ?_
  refine WP.seq fun K10 hK10 => ?_
  refine wr ?_
  refine u_step (o_moveV (v := .loc _ _) rfl ?_)
  refine u_step (o_nc rfl hb4_6 ?_)
  refine uf th63 th4 hb4_6 ?_
  refine ul th4 hb4_6 ?_
  refine u_nil ?_
  refine wc (fun hc12 => ?_) (fun hc12 => ?_) <;> try simp only [Q0, Q1, Q2, Q3, Q4, Q5, Q6, Q7, Q8, ge_iff_le, gt_iff_lt] at hc12
  ·
   have g0 : (rdByte s).2.2 = true := by simpa using hc12
   have hr : rdR (d + 1) s = (.mk 0 0 [] [] [], (rdByte s).2) := by simp only [rdR]; rw [if_pos g0]
   refine wr ?_
   refine u_step (o_bu rfl th27 rfl rfl ?_)
   refine u_step0 (g_sta rfl rfl th27 rfl hb2_6 (by first | (simp; done) | (simp [D.leaves, D.width, valCells]; done) | decide) fun o14 hb14 hk14 => ?_)
   have hb4_14 := (hk14 _ (by omega)).trans hb4_6
   have hb6_14 := (hk14 _ (by omega)).trans hb6
   refine u_nil ?_
   refine WP.ret ?_
   refine retCM_ok (resis_agg rfl th27 rfl hb14 rfl rfl rfl) ?_ (by omega) (by rw [hr]; exact hb4_14) (fun t ht => (hk14 t (by omega)).trans ((hk6 t (by omega)).trans ((hk5 t (by omega)).trans ((hk4 t (by omega)).trans ((hk2 t (by omega)))))))
   rw [hr]; exact leV0 _ _ _
  ·
   have g0 : ¬ (rdByte s).2.2 = true := by simpa using hc12
   refine WP.skip ?_
   refine hK10 _ ?_
   refine WP.seq fun K15 hK15 => ?_
   refine wr ?_
   refine uf th27 th3 hb6 ?_
   refine ul th3 hb6 ?_
   refine u_nil ?_
   refine WP.block ?_
   refine wr ?_
   refine ub ?_
   refine ua ?_
   refine u_nil ?_
   refine wc (fun hc18 => ?_) (fun hc18 => ?_) <;> try simp only [Q0, Q1, Q2, Q3, Q4, Q5, Q6, Q7, Q8, ge_iff_le, gt_iff_lt] at hc18
   ·
    have g1 : (rdByte s).1 = 1 := by simpa using hc18
    have hr : rdR (d + 1) s = (.mk (rdByte s).1 0 [] [] [], (rdByte s).2) := by simp only [rdR]; rw [if_neg g0, if_pos g1]
    refine WP.skip ?_
    refine hK15 _ ?_
    refine wr ?_
    refine ug th27 hb6 ?_
    refine u_step0 (g_sta rfl rfl th27 rfl hb2_6 (by first | (simp; done) | (simp [D.leaves, D.width, valCells]; done) | decide) fun o20 hb20 hk20 => ?_)
    have hb4_20 := (hk20 _ (by omega)).trans hb4_6
    have hb6_20 := (hk20 _ (by omega)).trans hb6
    refine u_nil ?_
    refine WP.ret ?_
    refine retCM_ok (resis_agg rfl th27 rfl hb20 rfl rfl rfl) ?_ (by omega) (by rw [hr]; exact hb4_20) (fun t ht => (hk20 t (by omega)).trans ((hk6 t (by omega)).trans ((hk5 t (by omega)).trans ((hk4 t (by omega)).trans ((hk2 t (by omega)))))))
    rw [hr]; exact leV0 _ _ _
   ·
    have g1 : ¬ (rdByte s).1 = 1 := by simpa using hc18
    refine wr ?_
    refine ub ?_
    refine ua ?_
    refine u_nil ?_
    refine wc (fun hc22 => ?_) (fun hc22 => ?_) <;> try simp only [Q0, Q1, Q2, Q3, Q4, Q5, Q6, Q7, Q8, ge_iff_le, gt_iff_lt] at hc22
    ·
     have g2 : (rdByte s).1 = 2 := by simpa using hc22
     have hr : rdR (d + 1) s = (.mk (rdByte s).1 (rdByte (rdByte s).2).1 [] [] [], (rdByte (rdByte s).2).2) := by simp only [rdR]; rw [if_neg g0, if_neg g1, if_pos g2]
     refine WP.reg tabOk rfl ?_
     refine u_step (o_moveV (v := .loc _ _) rfl ?_)
     refine u_step (g_mcall (s95 _) hb4_6 rfl fun o23 hb23 hk23 => ?_)
     have hb2_23 := (hk23 _ (by omega)).trans hb2_6
     have hb6_23 := (hk23 _ (by omega)).trans hb6
     refine uf th27 th3 hb6_23 ?_
     refine u_step0 (g_st rfl rfl rfl th3 rfl hb6_23 (by first | (simp; done) | (simp [D.leaves, D.width]; done) | decide) fun o24 hb24 hk24 => ?_)
     have hb2_24 := (hk24 _ (by omega)).trans hb2_23
     have hb23_24 := (hk24 _ (by omega)).trans hb23
     refine u_nil ?_
     refine hK15 _ ?_
     refine wr ?_
     refine ug th27 hb24 ?_
     refine u_step0 (g_sta rfl rfl th27 rfl hb2_24 (by first | (simp; done) | (simp [D.leaves, D.width, valCells]; done) | decide) fun o26 hb26 hk26 => ?_)
     have hb23_26 := (hk26 _ (by omega)).trans hb23_24
     have hb24_26 := (hk26 _ (by omega)).trans hb24
     refine u_nil ?_
     refine WP.ret ?_
     refine retCM_ok (resis_agg rfl th27 rfl hb26 rfl rfl rfl) ?_ (by omega) (by rw [hr]; exact hb23_26) (fun t ht => (hk26 t (by omega)).trans ((hk24 t (by omega)).trans ((hk23 t (by omega)).trans ((hk6 t (by omega)).trans ((hk5 t (by omega)).trans ((hk4 t (by omega)).trans ((hk2 t (by omega)))))))))
     rw [hr]; exact leV0 _ _ _
    ·
     have g2 : ¬ (rdByte s).1 = 2 := by simpa using hc22
     refine wr ?_
     refine ub ?_
     refine ua ?_
     refine u_nil ?_
     refine wc (fun hc28 => ?_) (fun hc28 => ?_) <;> try simp only [Q0, Q1, Q2, Q3, Q4, Q5, Q6, Q7, Q8, ge_iff_le, gt_iff_lt] at hc28
     ·
      have g3 : (rdByte s).1 = 3 := by simpa using hc28
      have hr : rdR (d + 1) s = (.mk (rdByte s).1 (intS (rdByte s).2).1 [] [] [], (intS (rdByte s).2).2) := by simp only [rdR]; rw [if_neg g0, if_neg g1, if_neg g2, if_pos g3]
      refine WP.reg tabOk rfl ?_
      refine u_step (o_moveV (v := .loc _ _) rfl ?_)
      refine u_step (g_mcall (s171 _) hb4_6 rfl fun o29 hb29 hk29 => ?_)
      have hb2_29 := (hk29 _ (by omega)).trans hb2_6
      have hb6_29 := (hk29 _ (by omega)).trans hb6
      refine uf th27 th3 hb6_29 ?_
      refine u_step0 (g_st rfl rfl rfl th3 rfl hb6_29 (by first | (simp; done) | (simp [D.leaves, D.width]; done) | decide) fun o30 hb30 hk30 => ?_)
      have hb2_30 := (hk30 _ (by omega)).trans hb2_29
      have hb29_30 := (hk30 _ (by omega)).trans hb29
      refine u_nil ?_
      refine hK15 _ ?_
      refine wr ?_
      refine ug th27 hb30 ?_
      refine u_step0 (g_sta rfl rfl th27 rfl hb2_30 (by first | (simp; done) | (simp [D.leaves, D.width, valCells]; done) | decide) fun o32 hb32 hk32 => ?_)
      have hb29_32 := (hk32 _ (by omega)).trans hb29_30
      have hb30_32 := (hk32 _ (by omega)).trans hb30
      refine u_nil ?_
      refine WP.ret ?_
      refine retCM_ok (resis_agg rfl th27 rfl hb32 rfl rfl rfl) ?_ (by omega) (by rw [hr]; exact hb29_32) (fun t ht => (hk32 t (by omega)).trans ((hk30 t (by omega)).trans ((hk29 t (by omega)).trans ((hk6 t (by omega)).trans ((hk5 t (by omega)).trans ((hk4 t (by omega)).trans ((hk2 t (by omega)))))))))
      rw [hr]; exact leV0 _ _ _
     ·
      have g3 : ¬ (rdByte s).1 = 3 := by simpa using hc28
      refine WP.seqJ ⟨al [(0, .loc k 0), (1, .d (.int .i64 ((d + 1 : Nat) : Int))), (4, .loc nk 0), (5, .loc (nk + 1) 0), (22, .d (.int .i64 (rdByte s).1)), (38, .d (.bool (decide ((rdByte s).1 = 4 ∨ (rdByte s).1 = 5))))], o6, ((nk + 1) + 1)⟩ ?_ ?_
      ·
       refine wr ?_
       refine ub ?_
       refine ua ?_
       refine u_nil ?_
       refine wc (fun hc34 => ?_) (fun hc34 => ?_) <;> try simp only [Q0, Q1, Q2, Q3, Q4, Q5, Q6, Q7, Q8, ge_iff_le, gt_iff_lt] at hc34
       ·
        try (have g4 : (rdByte s).1 = 4 ∨ (rdByte s).1 = 5 := hc34)
        try (have hr : rdR (d + 1) s = (.mk (rdByte s).1 0 (txtS (rdByte s).2 4096).1 [] [], (txtS (rdByte s).2 4096).2) := by simp only [rdR]; rw [if_neg g0, if_neg g1, if_neg g2, if_neg g3, if_pos g4])
        refine WP.skip ?_
        refine Le.al ?_
        simp only [List.forall_mem_cons]
        have hl2 := hc34
        refine ⟨rfl, rfl, rfl, rfl, rfl, ?_, by simp⟩
        refine congrArg (fun z => SV.d (.bool z)) ?_
        rw [Bool.eq_iff_iff, decide_eq_true_iff]
        simp at hl2 ⊢
        omega
       ·
        try (have g4 : ¬ ((rdByte s).1 = 4 ∨ (rdByte s).1 = 5) := hc34)
        refine WP.reg tabOk rfl ?_
        refine ub ?_
        refine ua ?_
        refine u_nil ?_
        refine Le.al ?_
        simp only [List.forall_mem_cons]
        have hl2 := hc34
        refine ⟨rfl, rfl, rfl, rfl, rfl, ?_, by simp⟩
        refine congrArg (fun z => SV.d (.bool z)) ?_
        rw [Bool.eq_iff_iff, decide_eq_true_iff]
        simp at hl2 ⊢
        omega
      ·
       refine wc (fun hc35 => ?_) (fun hc35 => ?_) <;> try simp only [Q0, Q1, Q2, Q3, Q4, Q5, Q6, Q7, Q8, ge_iff_le, gt_iff_lt] at hc35
       ·
        try (have g4 : (rdByte s).1 = 4 ∨ (rdByte s).1 = 5 := hc35)
        try (have hr : rdR (d + 1) s = (.mk (rdByte s).1 0 (txtS (rdByte s).2 4096).1 [] [], (txtS (rdByte s).2 4096).2) := by simp only [rdR]; rw [if_neg g0, if_neg g1, if_neg g2, if_neg g3, if_pos g4])
        refine WP.reg tabOk rfl ?_
        refine u_step (o_moveV (v := .loc _ _) rfl ?_)
        refine u_step (g_mcall (s96 _ _ (by omega)) hb4_6 rfl fun o36 hb36 hk36 => ?_)
        have hb2_36 := (hk36 _ (by omega)).trans hb2_6
        have hb6_36 := (hk36 _ (by omega)).trans hb6
        refine uf th27 th9 hb6_36 ?_
        refine u_step0 (g_st rfl rfl rfl th9 rfl hb6_36 (by first | (simp; done) | (simp [D.leaves, D.width]; done) | decide) fun o37 hb37 hk37 => ?_)
        have hb2_37 := (hk37 _ (by omega)).trans hb2_36
        have hb36_37 := (hk37 _ (by omega)).trans hb36
        refine u_nil ?_
        refine hK15 _ ?_
        refine wr ?_
        refine ug th27 hb37 ?_
        refine u_step0 (g_sta rfl rfl th27 rfl hb2_37 (by first | (simp; done) | (simp [D.leaves, D.width, valCells]; done) | decide) fun o39 hb39 hk39 => ?_)
        have hb36_39 := (hk39 _ (by omega)).trans hb36_37
        have hb37_39 := (hk39 _ (by omega)).trans hb37
        refine u_nil ?_
        refine WP.ret ?_
        refine retCM_ok (resis_agg rfl th27 rfl hb39 rfl rfl rfl) ?_ (by omega) (by rw [hr]; exact hb36_39) (fun t ht => (hk39 t (by omega)).trans ((hk37 t (by omega)).trans ((hk36 t (by omega)).trans ((hk6 t (by omega)).trans ((hk5 t (by omega)).trans ((hk4 t (by omega)).trans ((hk2 t (by omega)))))))))
        rw [hr]; exact leV0 _ _ _
       ·
        try (have g4 : ¬ ((rdByte s).1 = 4 ∨ (rdByte s).1 = 5) := hc35)
        refine WP.seqJ ⟨al [(0, .loc k 0), (1, .d (.int .i64 ((d + 1 : Nat) : Int))), (4, .loc nk 0), (5, .loc (nk + 1) 0), (22, .d (.int .i64 (rdByte s).1)), (44, .d (.bool (decide ((rdByte s).1 = 6 ∨ (rdByte s).1 = 7))))], o6, ((nk + 1) + 1)⟩ ?_ ?_
        ·
         refine wr ?_
         refine ub ?_
         refine ua ?_
         refine u_nil ?_
         refine wc (fun hc41 => ?_) (fun hc41 => ?_) <;> try simp only [Q0, Q1, Q2, Q3, Q4, Q5, Q6, Q7, Q8, ge_iff_le, gt_iff_lt] at hc41
         ·
          try (have g6 : (rdByte s).1 = 6 ∨ (rdByte s).1 = 7 := hc41)
          try (have hr : rdR (d + 1) s = (.mk (rdByte s).1 0 [] (rdIs (rdR d) (decide ((rdByte s).1 = 7)) (cntS (rdByte s).2 4096).1.toNat (cntS (rdByte s).2 4096).2 [] []).1 (rdIs (rdR d) (decide ((rdByte s).1 = 7)) (cntS (rdByte s).2 4096).1.toNat (cntS (rdByte s).2 4096).2 [] []).2.1, (rdIs (rdR d) (decide ((rdByte s).1 = 7)) (cntS (rdByte s).2 4096).1.toNat (cntS (rdByte s).2 4096).2 [] []).2.2) := by simp only [rdR]; rw [if_neg g0, if_neg g1, if_neg g2, if_neg g3, if_neg g4, if_pos g6])
          refine WP.skip ?_
          refine Le.al ?_
          simp only [List.forall_mem_cons]
          have hl2 := hc41
          refine ⟨rfl, rfl, rfl, rfl, rfl, ?_, by simp⟩
          refine congrArg (fun z => SV.d (.bool z)) ?_
          rw [Bool.eq_iff_iff, decide_eq_true_iff]
          simp at hl2 ⊢
          omega
         ·
          try (have g6 : ¬ ((rdByte s).1 = 6 ∨ (rdByte s).1 = 7) := hc41)
          try (have hr : rdR (d + 1) s = (.mk (rdByte s).1 0 [] [] [], ((rdByte s).2.1, true)) := by simp only [rdR]; rw [if_neg g0, if_neg g1, if_neg g2, if_neg g3, if_neg g4, if_neg g6])
          refine WP.reg tabOk rfl ?_
          refine ub ?_
          refine ua ?_
          refine u_nil ?_
          refine Le.al ?_
          simp only [List.forall_mem_cons]
          have hl2 := hc41
          refine ⟨rfl, rfl, rfl, rfl, rfl, ?_, by simp⟩
          refine congrArg (fun z => SV.d (.bool z)) ?_
          rw [Bool.eq_iff_iff, decide_eq_true_iff]
          simp at hl2 ⊢
          omega
        ·
         refine wc (fun hc42 => ?_) (fun hc42 => ?_) <;> try simp only [Q0, Q1, Q2, Q3, Q4, Q5, Q6, Q7, Q8, ge_iff_le, gt_iff_lt] at hc42
         ·
          try (have g6 : (rdByte s).1 = 6 ∨ (rdByte s).1 = 7 := hc42)
          try (have hr : rdR (d + 1) s = (.mk (rdByte s).1 0 [] (rdIs (rdR d) (decide ((rdByte s).1 = 7)) (cntS (rdByte s).2 4096).1.toNat (cntS (rdByte s).2 4096).2 [] []).1 (rdIs (rdR d) (decide ((rdByte s).1 = 7)) (cntS (rdByte s).2 4096).1.toNat (cntS (rdByte s).2 4096).2 [] []).2.1, (rdIs (rdR d) (decide ((rdByte s).1 = 7)) (cntS (rdByte s).2 4096).1.toNat (cntS (rdByte s).2 4096).2 [] []).2.2) := by simp only [rdR]; rw [if_neg g0, if_neg g1, if_neg g2, if_neg g3, if_neg g4, if_pos g6])
          refine wr ?_
          refine u_step (o_moveV (v := .loc _ _) rfl ?_)
          refine u_step (g_mcall (s94 _ 4096) hb4_6 rfl fun o44 hb44 hk44 => ?_)
          have hb2_44 := (hk44 _ (by omega)).trans hb2_6
          have hb6_44 := (hk44 _ (by omega)).trans hb6
          refine ua ?_
          refine u_nil ?_
          refine wr ?_
          refine ua ?_
          refine u_nil ?_
          refine WP.block ?_
          refine WP.loopL (ι := Nat × SB × List Val × List Str × SV × Option Nat × SV × Option Nat × Nat × Nat × (Nat → Option AO) × Nat) (fun ⟨i, s1, xs, ns, c, q, c2, q2, a, b, o2, nk2⟩ => ⟨al [(0, .loc k 0), (1, .d (.int .i64 ((d + 1 : Nat) : Int))), (4, .loc nk 0), (5, .loc (nk + 1) 0), (6, .d (.int .i64 (cntS (rdByte s).2 4096).1)), (7, .d (.int .i64 i))], o2, nk2⟩) (fun ⟨i, s1, xs, ns, c, q, c2, q2, a, b, o2, nk2⟩ => i ≤ (cntS (rdByte s).2 4096).1.toNat ∧ nk + 2 ≤ nk2 ∧ s1.1.length ≤ 4611686018427387904 ∧ xs.length ≤ i ∧ ns.length ≤ i ∧ rdIs (rdR d) (decide ((rdByte s).1 = 7)) ((cntS (rdByte s).2 4096).1.toNat - i) s1 xs ns = rdIs (rdR d) (decide ((rdByte s).1 = 7)) (cntS (rdByte s).2 4096).1.toNat (cntS (rdByte s).2 4096).2 [] [] ∧ o2 k = some (.box (srcS s1)) ∧ o2 (nk + 1) = some (.box [.d (.int .i64 (rdByte s).1), .d (.int .i64 0), .d (.str []), c, c2]) ∧ o2 nk = some (.box [.d (.int .i64 0), .d (.int .i64 0), .d (.str []), .d .nil, .d .nil]) ∧ dstOf o2 27 5 c = some (q, encVs xs) ∧ (∀ t, q = some t → nk + 2 ≤ t ∧ t < nk2 ∧ t = a) ∧ dstOf o2 9 1 c2 = some (q2, ns.map .str) ∧ (∀ t, q2 = some t → nk + 2 ≤ t ∧ t < nk2 ∧ t = b) ∧ a < nk2 ∧ b < nk2 ∧ a ≠ b ∧ ∀ t, t < nk ∧ t ≠ k → o2 t = o t) (fun ⟨i, s1, xs, ns, c, q, c2, q2, a, b, o2, nk2⟩ => (cntS (rdByte s).2 4096).1.toNat - i) (fun ⟨i, s1, xs, ns, c, q, c2, q2, a, b, o2, nk2⟩ hA => ?_) ⟨0, (cntS (rdByte s).2 4096).2, [], [], .d .nil, none, .d .nil, none, 0, 1, o44, ((nk + 1) + 1)⟩ ?_ ?_
          ·
           obtain ⟨hle, hnk, hsl, hxl, hnl, heq, hsk, hob, hzb, hd, hq, hd2, hq2, hal, hbl, hab, hfr⟩ := hA
           refine WP.seq fun K46 hK46 => ?_
           refine wr ?_
           refine um ?_
           refine um ?_
           refine ub ?_
           refine um ?_
           apply gT
           · rfl
           · intro hg
             refine o_moveV (v := .loc _ _) rfl ⟨rfl, rfl, rfl⟩
           apply gT
           · rfl
           · intro hg; try simp only [hg, ct]; try simp only [hg, ct, Bt]
             refine o_nc rfl hsk ⟨rfl, rfl, rfl⟩
           apply gT
           · rfl
           · intro hg; try simp only [hg, ct]; try simp only [hg, ct, Bt]
             exact pf th63 th4 hsk
           apply gT
           · rfl
           · intro hg; try simp only [hg, ct]; try simp only [hg, ct, Bt]
             exact pl th4 hsk
           apply gT
           · rfl
           · intro hg; try simp only [hg, ct]; try simp only [hg, ct, Bt]
             exact pN
           refine uA ?_
           refine u_nil ?_
           refine wc (fun hc48 => ?_) (fun hc48 => ?_) <;> try simp only [Q0, Q1, Q2, Q3, Q4, Q5, Q6, Q7, Q8, ge_iff_le, gt_iff_lt] at hc48
           ·
            have hgo := hc48
            simp at hgo
            have hlt : i < (cntS (rdByte s).2 4096).1.toNat := by omega
            have hbad : ¬ s1.2 = true := by rw [hgo.2]; decide
            refine WP.skip ?_
            refine hK46 _ ?_
            refine WP.seq fun K49 hK49 => ?_
            refine WP.block ?_
            refine WP.seq fun K50 hK50 => ?_
            refine wr ?_
            refine uf th27 th3 hob ?_
            refine ul th3 hob ?_
            refine ub ?_
            refine u_nil ?_
            refine wc (fun hc52 => ?_) (fun hc52 => ?_) <;> try simp only [Q0, Q1, Q2, Q3, Q4, Q5, Q6, Q7, Q8, ge_iff_le, gt_iff_lt] at hc52
            ·
             have h7 : decide ((rdByte s).1 = 7) = true := by simpa using hc52
             refine WP.dr3 [.q 0 1, .q 0 1, .q 0 0, .w 0, .q 1 1, .w 1, .q 2 2, .w 2] [3, 5, 7] nk2 (nk2 + 1) (nk2 + 1) tabOk (by kernel_rfl) rfl (by kernel_rfl) (by kernel_rfl) ?_
             apply Exists.intro
             apply Exists.intro
             apply Exists.intro
             refine e_step2 rfl rfl (o_fa_loc rfl th27 rfl rfl th22 (by decide) hob ⟨rfl, rfl, rfl⟩) ?_ ?_
             rotate_left
             refine e_step2 rfl rfl (o_ld_locV rfl th22 rfl hob rfl ⟨rfl, rfl, rfl⟩) ?_ ?_
             rotate_left
             refine e_step rfl (o_moveV (v := .loc _ _) rfl ⟨rfl, rfl, rfl⟩) ?_
             refine e_w rfl rfl (w_mcall (s96 s1 32 (by omega)) hsk rfl ⟨rfl, rfl, rfl⟩) ?_
             refine e_step rfl (o_bs rfl th22 rfl th9 rfl rfl (by decide) rfl (by decide) (by decide) ⟨rfl, rfl, rfl⟩) ?_
             refine e_w rfl rfl (w_apD rfl th22 rfl th9 rfl rfl (by decide) rfl (dst_keep hd2 fun t e => (by have := hq2 t e; exact upd_ne _ _ (by omega))) (by simp only [List.length_map, List.length_cons, List.length_nil]; omega) (by simp only [List.length_map, List.length_cons, List.length_nil]; omega) ⟨rfl, rfl, rfl⟩) ?_
             refine e_step rfl (o_fa_loc rfl th27 rfl rfl th22 (by decide) (((upd_ne _ _ (by omega)).trans (killo_ne (fun e => by have := hq2 _ e; omega))).trans ((upd_ne _ _ (by omega)).trans hob)) ⟨rfl, rfl, rfl⟩) ?_
             refine e_w0 rfl rfl (w_stV rfl rfl (upd_same _ _ _) th22 rfl (((upd_ne _ _ (by omega)).trans (killo_ne (fun e => by have := hq2 _ e; omega))).trans ((upd_ne _ _ (by omega)).trans hob)) (by simp) ⟨rfl, rfl, rfl⟩) ?_
             refine e_nil rfl fun o56 ho56 => ?_
             have hbZ_56 := (ho56 _).trans ((upd_ne _ _ (by omega)).trans (((upd_ne _ _ (by omega)).trans (killo_ne (fun e => by have := hq2 _ e; omega))).trans ((upd_ne _ _ (by omega)).trans hzb)))
             have hdC_56 := dst_keep (o' := o56) hd fun t e => (by have := hq t e; exact (ho56 t).trans ((upd_ne _ _ (by omega)).trans (((upd_ne _ _ (by omega)).trans (killo_ne (fun e => by have := hq2 _ e; omega))).trans (upd_ne _ _ (by omega)))))
             have hbM_56 := (ho56 _).trans ((upd_ne _ _ (by omega)).trans (((upd_ne _ _ (by omega)).trans (killo_ne (fun e => by have := hq2 _ e; omega))).trans (upd_same _ _ _)))
             have hbr54_56 := (ho56 _).trans ((upd_ne _ _ (by omega)).trans (upd_same _ _ _))
             have hbB_56 := (ho56 _).trans (upd_same _ _ _)
             have hk56 : ∀ t, t < nk ∧ t ≠ k → o56 t = o2 t := fun t ht => (ho56 t).trans ((upd_ne _ _ (by omega)).trans (((upd_ne _ _ (by omega)).trans (killo_ne (fun e => by have := hq2 _ e; omega))).trans (upd_ne _ _ (by omega))))
             ·
              refine hK50 _ ?_
              refine WP.dr3 [.q 0 1, .q 0 1, .q 0 0, .q 0 0, .q 0 0, .w 0, .q 1 1, .w 1, .q 2 2, .w 2] [5, 7, 9] (nk2 + 1) ((nk2 + 1) + 1) ((nk2 + 1) + 1) tabOk (by kernel_rfl) rfl (by kernel_rfl) (by kernel_rfl) ?_
              apply Exists.intro
              apply Exists.intro
              apply Exists.intro
              refine e_step2 rfl rfl (o_fa_loc rfl th27 rfl rfl th25 (by decide) hbB_56 ⟨rfl, rfl, rfl⟩) ?_ ?_
              rotate_left
              refine e_step2 rfl rfl (o_ld_locV rfl th25 rfl hbB_56 rfl ⟨rfl, rfl, rfl⟩) ?_ ?_
              rotate_left
              refine e_step rfl (o_moveV (v := .loc _ _) rfl ⟨rfl, rfl, rfl⟩) ?_
              refine e_step rfl (o_move rfl ⟨rfl, rfl, rfl⟩) ?_
              refine e_step rfl (o_bin_int rfl rfl (by decide) (show intBin .sub .i64 ((d + 1 : Nat) : Int) 1 = some (.int .i64 (d : Int)) from congrArg (fun z => some (D.int .i64 z)) hde) ⟨rfl, rfl, rfl⟩) ?_
              refine e_w rfl rfl (w_mcall (ih _ (by have := txt_le s1 32; omega)) hbM_56 rfl ⟨rfl, rfl, rfl⟩) ?_
              first | refine e_step rfl (o_bs rfl th25 rfl th27 rfl rfl (by decide) rfl (by decide) (by decide) ⟨rfl, rfl, rfl⟩) ?_ | refine e_step rfl (o_bs1 rfl (by simp only [encV_width]) th25 rfl th27 rfl rfl (by decide) (by decide) ⟨rfl, rfl, rfl⟩) ?_
              refine e_w rfl rfl (w_apD rfl th25 rfl th27 rfl rfl (by decide) rfl (dst_keep hdC_56 fun t e => (by have := hq t e; exact upd_ne _ _ (by omega))) (by simp only [encVs_length, List.length_cons, List.length_nil]; omega) (by simp only [encVs_length, List.length_cons, List.length_nil]; omega) ⟨rfl, rfl, rfl⟩) ?_
              refine e_step rfl (o_fa_loc rfl th27 rfl rfl th25 (by decide) (((upd_ne _ _ (by omega)).trans (killo_ne (fun e => by have := hq _ e; omega))).trans ((upd_ne _ _ (by omega)).trans hbB_56)) ⟨rfl, rfl, rfl⟩) ?_
              refine e_w0 rfl rfl (w_stV rfl rfl (upd_same _ _ _) th25 rfl (((upd_ne _ _ (by omega)).trans (killo_ne (fun e => by have := hq _ e; omega))).trans ((upd_ne _ _ (by omega)).trans hbB_56)) (by simp) ⟨rfl, rfl, rfl⟩) ?_
              refine e_nil rfl fun o60 ho60 => ?_
              have hbZ_60 := (ho60 _).trans ((upd_ne _ _ (by omega)).trans (((upd_ne _ _ (by omega)).trans (killo_ne (fun e => by have := hq _ e; omega))).trans ((upd_ne _ _ (by omega)).trans hbZ_56)))
              have hbr54_60 := (ho60 _).trans ((upd_ne _ _ (by omega)).trans (((upd_ne _ _ (by omega)).trans (killo_ne (fun e => by have := hq _ e; omega))).trans ((upd_ne _ _ (by omega)).trans hbr54_56)))
              have hbM_60 := (ho60 _).trans ((upd_ne _ _ (by omega)).trans (((upd_ne _ _ (by omega)).trans (killo_ne (fun e => by have := hq _ e; omega))).trans (upd_same _ _ _)))
              have hbr58_60 := (ho60 _).trans ((upd_ne _ _ (by omega)).trans (upd_same _ _ _))
              have hbB_60 := (ho60 _).trans (upd_same _ _ _)
              have hk60 : ∀ t, t < nk ∧ t ≠ k → o60 t = o56 t := fun t ht => (ho60 t).trans ((upd_ne _ _ (by omega)).trans (((upd_ne _ _ (by omega)).trans (killo_ne (fun e => by have := hq _ e; omega))).trans (upd_ne _ _ (by omega))))
              ·
               refine hK49 _ ?_
               refine WP.reg tabOk rfl ?_
               refine um ?_
               refine ub ?_
               refine ua ?_
               refine u_nil ?_
               -- back
               refine ⟨⟨i + 1, (rdR d (txtS s1 32).2).2, xs ++ [(rdR d (txtS s1 32).2).1], ns ++ [(txtS s1 32).1], .row _, some _, .row _, some _, _, _, o60, ((nk2 + 1) + 1)⟩, ⟨by omega, by omega, by have := rdR_le d (txtS s1 32).2; have := txt_le s1 32; omega, by simp; omega, by simp; omega, ?_, hbM_60, hbB_60, hbZ_60, (encVs_app xs _).symm ▸ dst_row hbr58_60, fun t e => by injection e with e; exact ⟨by omega, by omega, e.symm⟩, (List.map_append (f := D.str) (l₁ := ns) (l₂ := [(txtS s1 32).1])).symm ▸ dst_row hbr54_60, fun t e => by injection e with e; exact ⟨by omega, by omega, e.symm⟩, by omega, by omega, by omega, (fun t ht => (hk60 t (by omega)).trans ((hk56 t (by omega)).trans ((hfr t (by omega)))))⟩, by simp only; omega, Le.al ?_⟩
               · rw [← heq, show (cntS (rdByte s).2 4096).1.toNat - i = ((cntS (rdByte s).2 4096).1.toNat - (i + 1)) + 1 by omega]; exact (rdIs_doc h7 hbad).symm
               · simp only [List.forall_mem_cons]
                 exact ⟨rfl, rfl, rfl, rfl, rfl, cnt (by omega), by simp⟩
              exact o_fa_loc rfl th27 rfl rfl th25 (by decide) ((upd_ne _ _ (by omega)).trans hbB_56) ⟨rfl, rfl, rfl⟩
              exact o_ld_locV rfl th25 rfl ((upd_ne _ _ (by omega)).trans hbB_56) rfl ⟨rfl, rfl, rfl⟩
             exact o_fa_loc rfl th27 rfl rfl th22 (by decide) ((upd_ne _ _ (by omega)).trans hob) ⟨rfl, rfl, rfl⟩
             exact o_ld_locV rfl th22 rfl ((upd_ne _ _ (by omega)).trans hob) rfl ⟨rfl, rfl, rfl⟩
            ·
             have h7 : ¬ decide ((rdByte s).1 = 7) = true := by simpa using hc52
             refine WP.skip ?_
             refine hK50 _ ?_
             refine WP.dr3 [.q 0 1, .q 0 1, .q 0 0, .q 0 0, .q 0 0, .w 0, .q 1 1, .w 1, .q 2 2, .w 2] [5, 7, 9] nk2 (nk2 + 1) (nk2 + 1) tabOk (by kernel_rfl) rfl (by kernel_rfl) (by kernel_rfl) ?_
             apply Exists.intro
             apply Exists.intro
             apply Exists.intro
             refine e_step2 rfl rfl (o_fa_loc rfl th27 rfl rfl th25 (by decide) hob ⟨rfl, rfl, rfl⟩) ?_ ?_
             rotate_left
             refine e_step2 rfl rfl (o_ld_locV rfl th25 rfl hob rfl ⟨rfl, rfl, rfl⟩) ?_ ?_
             rotate_left
             refine e_step rfl (o_moveV (v := .loc _ _) rfl ⟨rfl, rfl, rfl⟩) ?_
             refine e_step rfl (o_move rfl ⟨rfl, rfl, rfl⟩) ?_
             refine e_step rfl (o_bin_int rfl rfl (by decide) (show intBin .sub .i64 ((d + 1 : Nat) : Int) 1 = some (.int .i64 (d : Int)) from congrArg (fun z => some (D.int .i64 z)) hde) ⟨rfl, rfl, rfl⟩) ?_
             refine e_w rfl rfl (w_mcall (ih _ (by have := txt_le s1 32; omega)) hsk rfl ⟨rfl, rfl, rfl⟩) ?_
             first | refine e_step rfl (o_bs rfl th25 rfl th27 rfl rfl (by decide) rfl (by decide) (by decide) ⟨rfl, rfl, rfl⟩) ?_ | refine e_step rfl (o_bs1 rfl (by simp only [encV_width]) th25 rfl th27 rfl rfl (by decide) (by decide) ⟨rfl, rfl, rfl⟩) ?_
             refine e_w rfl rfl (w_apD rfl th25 rfl th27 rfl rfl (by decide) rfl (dst_keep hd fun t e => (by have := hq t e; exact upd_ne _ _ (by omega))) (by simp only [encVs_length, List.length_cons, List.length_nil]; omega) (by simp only [encVs_length, List.length_cons, List.length_nil]; omega) ⟨rfl, rfl, rfl⟩) ?_
             refine e_step rfl (o_fa_loc rfl th27 rfl rfl th25 (by decide) (((upd_ne _ _ (by omega)).trans (killo_ne (fun e => by have := hq _ e; omega))).trans ((upd_ne _ _ (by omega)).trans hob)) ⟨rfl, rfl, rfl⟩) ?_
             refine e_w0 rfl rfl (w_stV rfl rfl (upd_same _ _ _) th25 rfl (((upd_ne _ _ (by omega)).trans (killo_ne (fun e => by have := hq _ e; omega))).trans ((upd_ne _ _ (by omega)).trans hob)) (by simp) ⟨rfl, rfl, rfl⟩) ?_
             refine e_nil rfl fun o64 ho64 => ?_
             have hbZ_64 := (ho64 _).trans ((upd_ne _ _ (by omega)).trans (((upd_ne _ _ (by omega)).trans (killo_ne (fun e => by have := hq _ e; omega))).trans ((upd_ne _ _ (by omega)).trans hzb)))
             have hdE_64 := dst_keep (o' := o64) hd2 fun t e => (by have := hq2 t e; exact (ho64 t).trans ((upd_ne _ _ (by omega)).trans (((upd_ne _ _ (by omega)).trans (killo_ne (fun e => by have := hq _ e; omega))).trans (upd_ne _ _ (by omega)))))
             have hbM_64 := (ho64 _).trans ((upd_ne _ _ (by omega)).trans (((upd_ne _ _ (by omega)).trans (killo_ne (fun e => by have := hq _ e; omega))).trans (upd_same _ _ _)))
             have hbr62_64 := (ho64 _).trans ((upd_ne _ _ (by omega)).trans (upd_same _ _ _))
             have hbB_64 := (ho64 _).trans (upd_same _ _ _)
             have hk64 : ∀ t, t < nk ∧ t ≠ k → o64 t = o2 t := fun t ht => (ho64 t).trans ((upd_ne _ _ (by omega)).trans (((upd_ne _ _ (by omega)).trans (killo_ne (fun e => by have := hq _ e; omega))).trans (upd_ne _ _ (by omega))))
             ·
              refine hK49 _ ?_
              refine WP.reg tabOk rfl ?_
              refine um ?_
              refine ub ?_
              refine ua ?_
              refine u_nil ?_
              -- back
              refine ⟨⟨i + 1, (rdR d s1).2, xs ++ [(rdR d s1).1], ns, .row _, some _, c2, q2, _, b, o64, (nk2 + 1)⟩, ⟨by omega, by omega, by have := rdR_le d s1; omega, by simp; omega, by omega, ?_, hbM_64, hbB_64, hbZ_64, (encVs_app xs _).symm ▸ dst_row hbr62_64, fun t e => by injection e with e; exact ⟨by omega, by omega, e.symm⟩, hdE_64, fun t e => by have := hq2 t e; omega, by omega, by omega, by omega, (fun t ht => (hk64 t (by omega)).trans ((hfr t (by omega))))⟩, by simp only; omega, Le.al ?_⟩
              · rw [← heq, show (cntS (rdByte s).2 4096).1.toNat - i = ((cntS (rdByte s).2 4096).1.toNat - (i + 1)) + 1 by omega]; exact (rdIs_arr h7 hbad).symm
              · simp only [List.forall_mem_cons]
                exact ⟨rfl, rfl, rfl, rfl, rfl, cnt (by omega), by simp⟩
             exact o_fa_loc rfl th27 rfl rfl th25 (by decide) ((upd_ne _ _ (by omega)).trans hob) ⟨rfl, rfl, rfl⟩
             exact o_ld_locV rfl th25 rfl ((upd_ne _ _ (by omega)).trans hob) rfl ⟨rfl, rfl, rfl⟩
           ·
            have hfin : rdIs (rdR d) (decide ((rdByte s).1 = 7)) (cntS (rdByte s).2 4096).1.toNat (cntS (rdByte s).2 4096).2 [] [] = (xs, ns, s1) := by
              rw [← heq]
              by_cases hz : s1.2 = true
              · exact rdIs_bad hz
              · have hge : (cntS (rdByte s).2 4096).1.toNat - i = 0 := by (have hq := hc48; simp [hz] at hq; omega)
                rw [hge]; rfl
            rw [hfin] at hr
            refine WP.exit ?_
            refine hK15 _ ?_
            refine WP.frzC2 (pre := [.d (.int .i64 (rdByte s).1), .d (.int .i64 0), .d (.str [])]) (post := []) [(4, .loc nk 0), (5, .loc (nk + 1) 0)] nk hob hd hd2 (fun t h1 h2 => by have := hq t h1; have := hq2 t h2; omega) (by omega) (fun t d => ⟨rfl, rfl⟩) (fun t d => by simp only [List.forall_mem_cons]; exact ⟨⟨rfl, rfl⟩, ⟨rfl, rfl⟩, by simp⟩) (by simp only [List.forall_mem_cons]; exact ⟨rfl, rfl, by simp⟩) (by simp only [List.forall_mem_cons]; exact ⟨rfl, rfl, by simp⟩) fun o9 hB9 hk9 hm9 => ?_
            have hZ9 := hm9 _ _ (by omega) hzb fun t d => rfl
            have hF9 : ∀ t, t < nk → o9 t = o2 t := fun t ht => hk9 t ht (fun h => by have := hq t h; omega) (fun h => by have := hq2 t h; omega)
            have hM9 := (hF9 _ hkn).trans hsk
            refine wr ?_
            refine ug th27 hB9 ?_
            refine u_step0 (g_sta rfl rfl th27 rfl hZ9 (by first | (simp; done) | (simp [D.leaves, D.width, valCells]; done) | decide) fun o66 hb66 hk66 => ?_)
            have hM9_66 := (hk66 _ (by omega)).trans hM9
            have hB9_66 := (hk66 _ (by omega)).trans hB9
            refine u_nil ?_
            refine WP.ret ?_
            refine retCM_ok (resis_agg rfl th27 rfl hb66 rfl rfl rfl) ?_ (by omega) (by rw [hr]; exact hM9_66) (fun t ht => (hk66 t (by omega)).trans ((hF9 t (by omega)).trans ((hfr t (by omega)))))
            rw [hr]; exact D.le_refl _
          ·
           refine ⟨by omega, by omega, by omega, by simp, by simp, rfl, hb44, hb6_44, hb2_44, rfl, by simp, rfl, by simp, by omega, by omega, by decide, (fun t ht => (hk44 t (by omega)).trans ((hk6 t (by omega)).trans ((hk5 t (by omega)).trans ((hk4 t (by omega)).trans ((hk2 t (by omega)))))))⟩
          ·
           refine Le.al ?_
           simp only [List.forall_mem_cons]
           exact ⟨rfl, rfl, rfl, rfl, rfl, rfl, by simp⟩
         ·
          try (have g6 : ¬ ((rdByte s).1 = 6 ∨ (rdByte s).1 = 7) := hc42)
          try (have hr : rdR (d + 1) s = (.mk (rdByte s).1 0 [] [] [], ((rdByte s).2.1, true)) := by simp only [rdR]; rw [if_neg g0, if_neg g1, if_neg g2, if_neg g3, if_neg g4, if_neg g6])
          refine WP.reg tabOk rfl ?_
          refine u_step (o_moveV (v := .loc _ _) rfl ?_)
          refine u_step (o_nc rfl hb4_6 ?_)
          refine uf th63 th4 hb4_6 ?_
          refine u_step0 (g_st rfl rfl rfl th4 rfl hb4_6 (by first | (simp; done) | (simp [D.leaves, D.width]; done) | decide) fun o67 hb67 hk67 => ?_)
          have hb2_67 := (hk67 _ (by omega)).trans hb2_6
          have hb6_67 := (hk67 _ (by omega)).trans hb6
          refine u_nil ?_
          refine hK15 _ ?_
          refine wr ?_
          refine ug th27 hb6_67 ?_
          refine u_step0 (g_sta rfl rfl th27 rfl hb2_67 (by first | (simp; done) | (simp [D.leaves, D.width, valCells]; done) | decide) fun o69 hb69 hk69 => ?_)
          have hb6_69 := (hk69 _ (by omega)).trans hb6_67
          have hb67_69 := (hk69 _ (by omega)).trans hb67
          refine u_nil ?_
          refine WP.ret ?_
          refine retCM_ok (resis_agg rfl th27 rfl hb69 rfl rfl rfl) ?_ (by omega) (by rw [hr]; exact hb67_69) (fun t ht => (hk69 t (by omega)).trans ((hk67 t (by omega)).trans ((hk6 t (by omega)).trans ((hk5 t (by omega)).trans ((hk4 t (by omega)).trans ((hk2 t (by omega))))))))
          rw [hr]; exact leV0 _ _ _

theorem rd145 : ∀ (d : Nat), d ≤ 8 → ∀ s : SB, s.1.length ≤ 4611686018427387904 → MSpec Tryz.prog 145 (fun k => [.loc k 0, .d (.int .i64 d)]) (srcS s) (srcS (rdR d s).2) (.d (encV (rdR d s).1))
  | 0, hd, s, hx => s145z s
  | d + 1, hd, s, hx => s145 d (by omega) (rd145 d (by omega)) s hx

theorem fn97 : FnOkC Tryz.prog 97 25 [.cell 2 27] (bodyOf Tryz.f97) := ⟨Tryz.f97, Tryz.func97, by kernel_rfl, by decide, by kernel_rfl, by kernel_rfl⟩
theorem s97 (s : SB) (hx : s.1.length ≤ 1048576) : MSpec Tryz.prog 97 (fun k => [.loc k 0]) (srcS s) (srcS (rdAllR s).2) (.d (encV (rdAllR s).1)) := by
 have hsz : szV (rdR 8 s).1 ≤ 1099511627776 := by
   have h1 := rdR_sz 8 s (by omega)
   have h2 : pot s ≤ s.1.length + 2 := by (unfold pot; split <;> omega)
   split at h1 <;> omega
 refine MSpec.ofC tabOk fn97 (fun _ => by simp) (fun _ => by first | exact srcS_lts _ _ | simp [SV.lts, SV.lt]) fun o nk k hkn hM => ?_
 refine wr ?_
 refine u_step (g_alloc th27 rfl fun o2 hb2 hk2 => ?_)
 have hM_2 := (hk2 _ (by omega)).trans hM
 refine u_nil ?_
 refine WP.seq fun K3 hK3 => ?_
 refine wr ?_
 refine u_step (o_moveV (v := .loc _ _) rfl ?_)
 refine u_step (o_nc rfl hM_2 ?_)
 refine uf th63 th4 hM_2 ?_
 refine ul th4 hM_2 ?_
 refine u_nil ?_
 refine wc (fun hc5 => ?_) (fun hc5 => ?_) <;> try simp only [Q0, Q1, Q2, Q3, Q4, Q5, Q6, Q7, Q8, ge_iff_le, gt_iff_lt] at hc5
 ·
  have h0 : s.2 = true := by simpa using hc5
  refine wr ?_
  refine u_step (o_bu rfl th27 rfl rfl ?_)
  refine u_step0 (g_sta rfl rfl th27 rfl hb2 (by first | (simp; done) | (simp [D.leaves, D.width, valCells]; done) | decide) fun o7 hb7 hk7 => ?_)
  have hM_7 := (hk7 _ (by omega)).trans hM_2
  refine u_nil ?_
  refine WP.ret ?_
  refine retCM_ok (resis_agg rfl th27 rfl hb7 rfl rfl rfl) ?_ (by omega) (by rw [rdAllR_bad h0]; exact hM_7) (fun t ht => (hk7 t (by omega)).trans ((hk2 t (by omega))))
  rw [rdAllR_bad h0]; exact leV0 _ _ _
 ·
  have h0 : ¬ s.2 = true := by simpa using hc5
  refine WP.skip ?_
  refine hK3 _ ?_
  refine wr ?_
  refine u_step (o_moveV (v := .loc _ _) rfl ?_)
  refine u_step (g_mcall (rd145 8 (by decide) s (by omega)) hM_2 rfl fun o9 hb9 hk9 => ?_)
  have hb2_9 := (hk9 _ (by omega)).trans hb2
  refine u_step (g_alloc th27 rfl fun o10 hb10 hk10 => ?_)
  have hb2_10 := (hk10 _ (by omega)).trans hb2_9
  have hb9_10 := (hk10 _ (by omega)).trans hb9
  refine u_step0 (g_sta rfl (congrArg SV.d (encV_eq _)) th27 rfl hb10 (by simp [valCells]) fun o11 hb11 hk11 => ?_)
  have hb2_11 := (hk11 _ (by omega)).trans hb2_10
  have hb9_11 := (hk11 _ (by omega)).trans hb9_10
  refine u_nil ?_
  refine WP.seq fun K12 hK12 => ?_
  refine wr ?_
  refine u_step (o_moveV (v := .loc _ _) rfl ?_)
  refine u_step (o_nc rfl hb9_11 ?_)
  refine uf th63 th4 hb9_11 ?_
  refine ul th4 hb9_11 ?_
  refine um ?_
  apply gF
  · rfl
  · intro hg
    exact pg th27 hb11
  apply gF
  · rfl
  · intro hg; try simp only [hg, ct]; try simp only [hg, ct, Bt]
    refine o_pcall (pv (s66 (rdR 8 s).1 (rdR_rng 8 s) hsz)) rfl ⟨rfl, rfl, rfl⟩
  apply gF
  · rfl
  · intro hg; try simp only [hg, ct]; try simp only [hg, ct, Bt]
    exact pb
  refine uO ?_
  refine u_nil ?_
  refine wc (fun hc14 => ?_) (fun hc14 => ?_) <;> try simp only [Q0, Q1, Q2, Q3, Q4, Q5, Q6, Q7, Q8, ge_iff_le, gt_iff_lt] at hc14
  ·
   have hz : (rdR 8 s).2.2 = true ∨ ¬ checkV (rdR 8 s).1 = 0 := by have hq := hc14; simpa using hq
   refine wr ?_
   refine u_step (o_moveV (v := .loc _ _) rfl ?_)
   refine u_step (o_nc rfl hb9_11 ?_)
   refine uf th63 th4 hb9_11 ?_
   refine u_step0 (g_st rfl rfl rfl th4 rfl hb9_11 (by simp) fun o16 hb16 hk16 => ?_)
   have hb2_16 := (hk16 _ (by omega)).trans hb2_11
   have hb11_16 := (hk16 _ (by omega)).trans hb11
   refine u_nil ?_
   refine wr ?_
   refine u_step (o_bu rfl th27 rfl rfl ?_)
   refine u_step0 (g_sta rfl rfl th27 rfl hb2_16 (by first | (simp; done) | (simp [D.leaves, D.width, valCells]; done) | decide) fun o18 hb18 hk18 => ?_)
   have hb11_18 := (hk18 _ (by omega)).trans hb11_16
   have hb16_18 := (hk18 _ (by omega)).trans hb16
   refine u_nil ?_
   refine WP.ret ?_
   refine retCM_ok (resis_agg rfl th27 rfl hb18 rfl rfl rfl) ?_ (by omega) (by rw [rdAllR_no h0 hz]; exact hb16_18) (fun t ht => (hk18 t (by omega)).trans ((hk16 t (by omega)).trans ((hk11 t (by omega)).trans ((hk10 t (by omega)).trans ((hk9 t (by omega)).trans ((hk2 t (by omega))))))))
   rw [rdAllR_no h0 hz]; exact leV0 _ _ _
  ·
   have hz : ¬ ((rdR 8 s).2.2 = true ∨ ¬ checkV (rdR 8 s).1 = 0) := by have hq := hc14; simpa using hq
   refine WP.skip ?_
   refine hK12 _ ?_
   refine wr ?_
   refine ug th27 hb11 ?_
   refine u_step0 (g_sta rfl rfl th27 rfl hb2_11 (by first | (simp; done) | (simp [D.leaves, D.width, valCells]; done) | decide) fun o20 hb20 hk20 => ?_)
   have hb9_20 := (hk20 _ (by omega)).trans hb9_11
   have hb11_20 := (hk20 _ (by omega)).trans hb11
   refine u_nil ?_
   refine WP.ret ?_
   refine retCM_ok (resis_agg rfl th27 rfl hb20 rfl rfl rfl) ?_ (by omega) (by rw [rdAllR_ok h0 hz]; exact hb9_20) (fun t ht => (hk20 t (by omega)).trans ((hk11 t (by omega)).trans ((hk10 t (by omega)).trans ((hk9 t (by omega)).trans ((hk2 t (by omega)))))))
   rw [rdAllR_ok h0 hz]; rw [encV_eq]; exact D.le_refl _

end Go.Proofs.YtpkcbdhjnnnkbaaGreat.Abs

set_option linter.unusedVariables false
set_option linter.unusedSimpArgs false
set_option maxRecDepth 10000
set_option maxHeartbeats 1000000
namespace Go.Proofs.YtpkcbdhjnnnkbaaGreat.Abs
open Go
/-- Both sources stand alike, or both are bad. -/
def SBq (a b : SB) : Prop := a.2 = b.2 ∧ (a.2 = false → a = b)
theorem SBq.refl (a : SB) : SBq a a := ⟨rfl, fun _ => rfl⟩
theorem SBq.bad {a b : SB} (ha : a.2 = true) (hb : b.2 = true) : SBq a b := ⟨ha.trans hb.symm, fun h => by rw [ha] at h; cases h⟩
theorem SBq.cases {a b : SB} (h : SBq a b) : a = b ∨ (a.2 = true ∧ b.2 = true) := by
  cases ha : a.2 with
  | false => exact .inl (h.2 ha)
  | true => exact .inr ⟨rfl, by rw [← h.1]; exact ha⟩
/-- What is read agrees where it is not bad. -/
def RdQ (rd rd' : SB → Val × SB) : Prop := ∀ s, (rd s).2.2 = (rd' s).2.2 ∧ ((rd s).2.2 = false → rd s = rd' s)
theorem rdIs_q {rd rd' : SB → Val × SB} (h : RdQ rd rd') (doc : Bool) : ∀ (n : Nat) (s : SB) (xs : List Val) (ns : List Str),
    (rdIs rd doc n s xs ns).2.2.2 = (rdIs rd' doc n s xs ns).2.2.2 ∧ ((rdIs rd doc n s xs ns).2.2.2 = false → rdIs rd doc n s xs ns = rdIs rd' doc n s xs ns)
  | 0, s, xs, ns => ⟨rfl, fun _ => rfl⟩
  | n + 1, s, xs, ns => by
    by_cases hb : s.2 = true
    · rw [rdIs_bad hb, rdIs_bad hb]; exact ⟨rfl, fun _ => rfl⟩
    · cases doc with
      | true =>
        rw [rdIs_doc rfl hb, rdIs_doc rfl hb]
        have hq := h (txtS s 32).2
        cases hz : (rd (txtS s 32).2).2.2 with
        | true => rw [rdIs_bad hz, rdIs_bad (hq.1 ▸ hz)]; exact ⟨hq.1, fun e => by simp only at e; rw [hz] at e; cases e⟩
        | false => rw [hq.2 hz]; exact rdIs_q h true n _ _ _
      | false =>
        rw [rdIs_arr (by decide) hb, rdIs_arr (by decide) hb]
        have hq := h s
        cases hz : (rd s).2.2 with
        | true => rw [rdIs_bad hz, rdIs_bad (hq.1 ▸ hz)]; exact ⟨hq.1, fun e => by simp only at e; rw [hz] at e; cases e⟩
        | false => rw [hq.2 hz]; exact rdIs_q h false n _ _ _
theorem byte_bad {s : SB} (h : s.2 = true) : (rdByte s).2.2 = true := by rw [rdByte_no (.inl h)]
theorem take_bad {s : SB} {n : Nat} {r : Bool} (h : s.2 = true) : takeS s n r = (false, (s.1, true)) := takeS_no (.inl h)
theorem cnt_bad2 {s : SB} {m : Int} (h : s.2 = true) : cntS s m = (0, (s.1, true)) := by unfold cntS; rw [take_bad h]; rfl
theorem int_bad2 {s : SB} (h : s.2 = true) : intS s = (0, (s.1, true)) := by unfold intS; rw [take_bad h]; rfl
theorem txt_bad2 {s : SB} {m : Int} (h : s.2 = true) : txtS s m = ([], (s.1, true)) := by
  refine txtS_no ?_
  unfold txtBad
  rw [gP_bad h]; simp
theorem rdV_bad (d : Nat) {s : SB} (h : s.2 = true) : (rdV d s).2.2 = true := by
  cases d with
  | zero => rfl
  | succ d =>
    have hr := rdByte_no (.inl h)
    simp only [rdV, hr]
    rfl
theorem rdV_q : ∀ d : Nat, RdQ (rdV d) (rdR d)
  | 0, s => ⟨rfl, fun h => by cases h⟩
  | d + 1, s => by
    by_cases g0 : (rdByte s).2.2 = true
    · have h1 : (rdV (d + 1) s).2.2 = true := by
        simp only [rdV]
        repeat' split
        · exact g0
        · exact byte_bad g0
        · rw [int_bad2 g0]
        · rw [txt_bad2 g0]
        · rw [rdIs_bad (by rw [cnt_bad2 g0]), cnt_bad2 g0]
        · rfl
      have h2 : (rdR (d + 1) s).2.2 = true := by simp only [rdR]; rw [if_pos g0]; exact g0
      exact ⟨h1.trans h2.symm, fun e => by rw [h1] at e; cases e⟩
    · have hq := rdIs_q (rdV_q d) (decide ((rdByte s).1 = 7)) (cntS (rdByte s).2 4096).1.toNat (cntS (rdByte s).2 4096).2 [] []
      simp only [rdV, rdR]
      rw [if_neg g0]
      by_cases g1 : (rdByte s).1 = 1
      · rw [if_pos g1, if_pos g1]; exact ⟨rfl, fun _ => rfl⟩
      rw [if_neg g1, if_neg g1]
      by_cases g2 : (rdByte s).1 = 2
      · rw [if_pos g2, if_pos g2]; exact ⟨rfl, fun _ => rfl⟩
      rw [if_neg g2, if_neg g2]
      by_cases g3 : (rdByte s).1 = 3
      · rw [if_pos g3, if_pos g3]; exact ⟨rfl, fun _ => rfl⟩
      rw [if_neg g3, if_neg g3]
      by_cases g4 : (rdByte s).1 = 4 ∨ (rdByte s).1 = 5
      · rw [if_pos g4, if_pos g4]; exact ⟨rfl, fun _ => rfl⟩
      rw [if_neg g4, if_neg g4]
      by_cases g6 : (rdByte s).1 = 6 ∨ (rdByte s).1 = 7
      · rw [if_pos g6, if_pos g6]
        exact ⟨hq.1, fun e => by rw [hq.2 e]⟩
      rw [if_neg g6, if_neg g6]; exact ⟨rfl, fun _ => rfl⟩
/-- A whole value: the same answer, and the sources alike. -/
theorem rdAll_q (s : SB) : (rdAll s).1 = (rdAllR s).1 ∧ SBq (rdAll s).2 (rdAllR s).2 := by
  by_cases h0 : s.2 = true
  · rw [rdAll_no (.inl (rdV_bad 8 h0)), rdAllR_bad h0]
    exact ⟨rfl, SBq.bad rfl h0⟩
  · have hq := rdV_q 8 s
    cases hz : (rdV 8 s).2.2 with
    | true =>
      rw [rdAll_no (.inl hz), rdAllR_no h0 (.inl (hq.1 ▸ hz))]
      exact ⟨rfl, SBq.bad rfl rfl⟩
    | false =>
      have he := hq.2 hz
      by_cases hc : checkV (rdV 8 s).1 = 0
      · have hg : ¬ ((rdV 8 s).2.2 = true ∨ ¬ checkV (rdV 8 s).1 = 0) := by
          rintro (e | e)
          · rw [hz] at e; cases e
          · exact e hc
        rw [rdAll_ok hg, rdAllR_ok h0 (by rw [← he]; exact hg), he]
        exact ⟨rfl, SBq.refl _⟩
      · rw [rdAll_no (.inr hc), rdAllR_no h0 (.inr (by rw [← he]; exact hc)), he]
        exact ⟨rfl, SBq.refl _⟩
theorem rdAll_bad {s : SB} (h : s.2 = true) : rdAll s = (.mk 0 0 [] [] [], ((rdV 8 s).2.1, true)) := rdAll_no (.inl (rdV_bad 8 h))
theorem rdAll_le (s : SB) : (rdAll s).2.1.length ≤ s.1.length := by
  unfold rdAll; split <;> exact rdV_le 8 s
theorem rdAllR_le (s : SB) : (rdAllR s).2.1.length ≤ s.1.length := by
  unfold rdAllR; split
  · exact Nat.le_refl _
  · split <;> exact rdR_le 8 s

end Go.Proofs.YtpkcbdhjnnnkbaaGreat.Abs

set_option linter.unusedVariables false
set_option linter.unusedSimpArgs false
set_option maxRecDepth 10000
set_option maxHeartbeats 1000000
namespace Go.Proofs.YtpkcbdhjnnnkbaaGreat.Abs
open Go
theorem rdAll_rng (s : SB) : rngV (rdAll s).1 := by
  unfold rdAll; split
  · exact ⟨by omega, trivial⟩
  · exact rdV_rng 8 s
theorem rdAll_sz (s : SB) (hx : s.1.length ≤ 1048576) : szV (rdAll s).1 ≤ 1099511627776 := by
  have h1 := rdV_sz 8 s (by omega)
  have h2 : pot s ≤ s.1.length + 2 := by (unfold pot; split <;> omega)
  unfold rdAll; split
  · simp [szV, szVs, szN]
  · split at h1 <;> omega
/-- A path's names: the program goes on where the source is bad, the document does not. -/
def rdTs : Nat → SB → List Str → List Str × SB
  | 0, s, ns => (ns, s)
  | n + 1, s, ns => rdTs n (txtS s 32).2 (ns ++ [(txtS s 32).1])
def rdTr : Nat → SB → List Str → List Str × SB
  | 0, s, ns => (ns, s)
  | n + 1, s, ns => if s.2 = true then (ns, s) else rdTr n (txtS s 32).2 (ns ++ [(txtS s 32).1])
theorem rdTs_le : ∀ (n : Nat) (s : SB) (ns : List Str), (rdTs n s ns).2.1.length ≤ s.1.length
  | 0, s, ns => Nat.le_refl _
  | n + 1, s, ns => Nat.le_trans (rdTs_le n _ _) (txt_le s 32)
/-- What stands behind the path. -/
def rdD3 (rv : SB → Val × SB) (k : Int) (ns : List Str) (s : SB) : Dlt × SB :=
  if k = 1 then (⟨k, ns, (rv s).1, 0⟩, (rv s).2) else if k = 3 then (⟨k, ns, .mk 0 0 [] [] [], (cntS s 999).1⟩, (cntS s 999).2) else (⟨k, ns, .mk 0 0 [] [] [], 0⟩, s)
def spoilD (p : Dlt × SB) : Dlt × SB := (p.1, if mayD p.1 = true then p.2 else (p.2.1, true))
/-- A delta, as the program reads it. -/
def rdDl (s : SB) : Dlt × SB := spoilD (rdD3 rdAll (rdByte s).1 (rdTs (cntS (rdByte s).2 8).1.toNat (cntS (rdByte s).2 8).2 []).1 (rdTs (cntS (rdByte s).2 8).1.toNat (cntS (rdByte s).2 8).2 []).2)
theorem spoil_yes {p : Dlt × SB} (h : mayD p.1 = true) : spoilD p = p := by unfold spoilD; rw [if_pos h]
theorem spoil_no {p : Dlt × SB} (h : ¬ mayD p.1 = true) : spoilD p = (p.1, (p.2.1, true)) := by unfold spoilD; rw [if_neg h]
theorem map_snoc (ns : List Str) (t : Str) : (ns ++ [t]).map D.str = ns.map D.str ++ [D.str t] := by simp

theorem fn93 : FnOkC Tryz.prog 93 37 [.cell 2 83] (bodyOf Tryz.f93) := ⟨Tryz.f93, Tryz.func93, by kernel_rfl, by decide, by kernel_rfl, by kernel_rfl⟩
theorem s93 (s : SB) (hx : s.1.length ≤ 1048576) : MSpec Tryz.prog 93 (fun k => [.loc k 0]) (srcS s) (srcS (rdDl s).2) (.d (encD (rdDl s).1)) := by
 have hb1 := byte_le s
 have hcr := cnt_rng (rdByte s).2 8 (by decide)
 have hcl := cnt_le (rdByte s).2 8
 refine MSpec.ofC tabOk fn93 (fun _ => by simp) (fun _ => by first | exact srcS_lts _ _ | simp [SV.lts, SV.lt]) fun o nk k hkn hM => ?_
 refine wr ?_
 refine u_step (g_alloc th83 rfl fun o2 hb2 hk2 => ?_)
 have hM_2 := (hk2 _ (by omega)).trans hM
 refine u_nil ?_
 refine wr ?_
 refine u_step (o_moveV (v := .loc _ _) rfl ?_)
 refine u_step (g_mcall (s106 s) hM_2 rfl fun o4 hb4 hk4 => ?_)
 have hb2_4 := (hk4 _ (by omega)).trans hb2
 refine u_step (o_bu rfl th83 rfl rfl ?_)
 refine u_step (g_alloc th83 rfl fun o5 hb5 hk5 => ?_)
 have hb2_5 := (hk5 _ (by omega)).trans hb2_4
 have hb4_5 := (hk5 _ (by omega)).trans hb4
 refine u_step0 (g_sta rfl rfl th83 rfl hb5 (by first | (simp; done) | (simp [D.leaves, D.width, valCells]; done) | decide) fun o6 hb6 hk6 => ?_)
 have hb2_6 := (hk6 _ (by omega)).trans hb2_5
 have hb4_6 := (hk6 _ (by omega)).trans hb4_5
 refine u_nil ?_
 refine WP.seq fun K7 hK7 => ?_
 refine wr ?_
 refine u_step (o_moveV (v := .loc _ _) rfl ?_)
 refine u_step (g_mcall (s92 _ 8) hb4_6 rfl fun o9 hb9 hk9 => ?_)
 have hb2_9 := (hk9 _ (by omega)).trans hb2_6
 have hb6_9 := (hk9 _ (by omega)).trans hb6
 refine um ?_
 refine u_nil ?_
 refine WP.block ?_
 refine WP.loopL (ι := Nat × SB × List Str × SV × Option Nat × (Nat → Option AO) × Nat) (fun ⟨i, s1, ns, c, q, o2, nk2⟩ => ⟨al [(0, .loc k 0), (2, .loc nk 0), (3, .loc (nk + 1) 0), (8, .d (.int .i64 (cntS (rdByte s).2 8).1)), (9, .d (.int .i64 i))], o2, nk2⟩) (fun ⟨i, s1, ns, c, q, o2, nk2⟩ => i ≤ (cntS (rdByte s).2 8).1.toNat ∧ nk + 2 ≤ nk2 ∧ s1.1.length ≤ 1048576 ∧ ns.length ≤ i ∧ rdTs ((cntS (rdByte s).2 8).1.toNat - i) s1 ns = rdTs (cntS (rdByte s).2 8).1.toNat (cntS (rdByte s).2 8).2 [] ∧ o2 k = some (.box (srcS s1)) ∧ o2 (nk + 1) = some (.box [.d (.int .i64 (rdByte s).1), c, .d (.int .i64 0), .d (.int .i64 0), .d (.str []), .d .nil, .d .nil, .d (.int .i64 0)]) ∧ o2 nk = some (.box [.d (.int .i64 0), .d .nil, .d (.int .i64 0), .d (.int .i64 0), .d (.str []), .d .nil, .d .nil, .d (.int .i64 0)]) ∧ dstOf o2 9 1 c = some (q, ns.map .str) ∧ (∀ t, q = some t → nk + 2 ≤ t ∧ t < nk2) ∧ ∀ t, t < nk ∧ t ≠ k → o2 t = o t) (fun ⟨i, s1, ns, c, q, o2, nk2⟩ => (cntS (rdByte s).2 8).1.toNat - i) (fun ⟨i, s1, ns, c, q, o2, nk2⟩ hA => ?_) ⟨0, (cntS (rdByte s).2 8).2, [], .d .nil, none, o9, ((nk + 1) + 1)⟩ ?_ ?_
 ·
  obtain ⟨hle, hnk, hsl, hnl, heq, hsk, hob, hzb, hd, hq, hfr⟩ := hA
  refine wr ?_
  refine ub ?_
  refine u_nil ?_
  refine WP.seq fun K11 hK11 => ?_
  refine wc (fun hc12 => ?_) (fun hc12 => ?_) <;> try simp only [Q0, Q1, Q2, Q3, Q4, Q5, Q6, Q7, Q8, ge_iff_le, gt_iff_lt] at hc12
  ·
   have hlt : i < (cntS (rdByte s).2 8).1.toNat := by have hgo := hc12; (try simp at hgo); omega
   refine WP.skip ?_
   refine hK11 _ ?_
   refine WP.seq fun K13 hK13 => ?_
   refine WP.block ?_
   refine WP.dr3 [.q 0 1, .q 0 1, .q 0 0, .w 0, .q 1 1, .w 1, .q 2 2, .w 2] [3, 5, 7] nk2 (nk2 + 1) (nk2 + 1) tabOk (by kernel_rfl) rfl (by kernel_rfl) (by kernel_rfl) ?_
   apply Exists.intro
   apply Exists.intro
   apply Exists.intro
   refine e_step2 rfl rfl (o_fa_loc rfl th83 rfl rfl th22 (by decide) hob ⟨rfl, rfl, rfl⟩) ?_ ?_
   rotate_left
   refine e_step2 rfl rfl (o_ld_locV rfl th22 rfl hob rfl ⟨rfl, rfl, rfl⟩) ?_ ?_
   rotate_left
   refine e_step rfl (o_moveV (v := .loc _ _) rfl ⟨rfl, rfl, rfl⟩) ?_
   refine e_w rfl rfl (w_mcall (s107 s1 32 (by omega)) hsk rfl ⟨rfl, rfl, rfl⟩) ?_
   refine e_step rfl (o_bs rfl th22 rfl th9 rfl rfl (by decide) rfl (by decide) (by decide) ⟨rfl, rfl, rfl⟩) ?_
   refine e_w rfl rfl (w_apD rfl th22 rfl th9 rfl rfl (by decide) rfl (dst_keep hd fun t e => (by have := hq t e; exact upd_ne _ _ (by omega))) (by simp only [List.length_map, List.length_cons, List.length_nil]; omega) (by simp only [List.length_map, List.length_cons, List.length_nil]; omega) ⟨rfl, rfl, rfl⟩) ?_
   refine e_step rfl (o_fa_loc rfl th83 rfl rfl th22 (by decide) (((upd_ne _ _ (by omega)).trans (killo_ne (fun e => by have := hq _ e; omega))).trans ((upd_ne _ _ (by omega)).trans hob)) ⟨rfl, rfl, rfl⟩) ?_
   refine e_w0 rfl rfl (w_stV rfl rfl (upd_same _ _ _) th22 rfl (((upd_ne _ _ (by omega)).trans (killo_ne (fun e => by have := hq _ e; omega))).trans ((upd_ne _ _ (by omega)).trans hob)) (by simp) ⟨rfl, rfl, rfl⟩) ?_
   refine e_nil rfl fun o17 ho17 => ?_
   have hbZ_17 := (ho17 _).trans ((upd_ne _ _ (by omega)).trans (((upd_ne _ _ (by omega)).trans (killo_ne (fun e => by have := hq _ e; omega))).trans ((upd_ne _ _ (by omega)).trans hzb)))
   have hbM_17 := (ho17 _).trans ((upd_ne _ _ (by omega)).trans (((upd_ne _ _ (by omega)).trans (killo_ne (fun e => by have := hq _ e; omega))).trans (upd_same _ _ _)))
   have hbr15_17 := (ho17 _).trans ((upd_ne _ _ (by omega)).trans (upd_same _ _ _))
   have hbB_17 := (ho17 _).trans (upd_same _ _ _)
   have hk17 : ∀ t, t < nk ∧ t ≠ k → o17 t = o2 t := fun t ht => (ho17 t).trans ((upd_ne _ _ (by omega)).trans (((upd_ne _ _ (by omega)).trans (killo_ne (fun e => by have := hq _ e; omega))).trans (upd_ne _ _ (by omega))))
   ·
    refine hK13 _ ?_
    refine WP.reg tabOk rfl ?_
    refine ub ?_
    refine um ?_
    refine u_nil ?_
    -- back
    refine ⟨⟨i + 1, (txtS s1 32).2, ns ++ [(txtS s1 32).1], .row _, some _, o17, (nk2 + 1)⟩, ⟨by omega, by omega, by have := txt_le s1 32; omega, by simp; omega, ?_, hbM_17, hbB_17, hbZ_17, (map_snoc ns _).symm ▸ dst_row hbr15_17, fun t e => by injection e with e; omega, (fun t ht => (hk17 t (by omega)).trans ((hfr t (by omega))))⟩, by simp only; omega, Le.al ?_⟩
    · rw [← heq, show (cntS (rdByte s).2 8).1.toNat - i = ((cntS (rdByte s).2 8).1.toNat - (i + 1)) + 1 by omega]; rfl
    · simp only [List.forall_mem_cons]
      exact ⟨rfl, rfl, rfl, rfl, cnt (by omega), by simp⟩
   exact o_fa_loc rfl th83 rfl rfl th22 (by decide) ((upd_ne _ _ (by omega)).trans hob) ⟨rfl, rfl, rfl⟩
   exact o_ld_locV rfl th22 rfl ((upd_ne _ _ (by omega)).trans hob) rfl ⟨rfl, rfl, rfl⟩
  ·
   have hge : (cntS (rdByte s).2 8).1.toNat - i = 0 := by have hgo := hc12; (try simp at hgo); omega
   have hfin : rdTs (cntS (rdByte s).2 8).1.toNat (cntS (rdByte s).2 8).2 [] = (ns, s1) := by rw [← heq, hge]; rfl
   have hrd : rdDl s = spoilD (rdD3 rdAll (rdByte s).1 ns s1) := by unfold rdDl; rw [hfin]
   refine WP.exit ?_
   refine hK7 _ ?_
   refine WP.seq fun K18 hK18 => ?_
   refine WP.frzC (pre := [.d (.int .i64 (rdByte s).1)]) (post := [.d (.int .i64 0), .d (.int .i64 0), .d (.str []), .d .nil, .d .nil, .d (.int .i64 0)]) [(0, .loc k 0), (2, .loc nk 0), (3, .loc (nk + 1) 0)] nk hob hd (by omega) (fun t e => ⟨rfl, rfl⟩) (fun t e => by simp only [List.forall_mem_cons]; exact ⟨rfl, rfl, rfl, by simp⟩) (fun e => by simp only [List.forall_mem_cons]; exact ⟨rfl, rfl, rfl, by simp⟩) fun o9 hB9 hk9 hm9 => ?_
   have hF9 : ∀ t, t < nk → o9 t = o2 t := fun t ht => hk9 t ht (fun h => by have := hq t h; omega)
   have hM9 := (hF9 _ hkn).trans hsk
   have hZ9 := hm9 _ _ (by omega) hzb fun t d => rfl
   refine WP.leB [.d (.int .i64 (rdByte s).1), .d (.sl 1 (ns.map .str)), .d (.int .i64 0), .d (.int .i64 0), .d (.str []), .d (.sl 5 []), .d (.sl 1 []), .d (.int .i64 0)] hB9 ⟨D.le_refl _, D.le_refl _, D.le_refl _, D.le_refl _, D.le_refl _, rfl, rfl, D.le_refl _, trivial⟩ fun o8 hB8 hk8 => ?_
   have hF8 : ∀ t, t < nk → o8 t = o9 t := fun t ht => hk8 t (by omega)
   have hM8 := (hF8 _ hkn).trans hM9
   have hZ8 := (hk8 _ (by omega)).trans hZ9
   refine wr ?_
   refine uf th83 th3 hB8 ?_
   refine ul th3 hB8 ?_
   refine u_nil ?_
   refine WP.block ?_
   refine wr ?_
   refine ub ?_
   refine ua ?_
   refine u_nil ?_
   refine wc (fun hc21 => ?_) (fun hc21 => ?_) <;> try simp only [Q0, Q1, Q2, Q3, Q4, Q5, Q6, Q7, Q8, ge_iff_le, gt_iff_lt] at hc21
   ·
    have g1 : (rdByte s).1 = 1 := by simpa using hc21
    have hd3 : rdD3 rdAll (rdByte s).1 ns s1 = ((⟨(rdByte s).1, ns, (rdAll s1).1, 0⟩ : Dlt), (rdAll s1).2) := if_pos g1
    have hok : okD (⟨(rdByte s).1, ns, (rdAll s1).1, 0⟩ : Dlt) := ⟨rdAll_rng s1, rdAll_sz s1 (by omega)⟩
    refine WP.reg tabOk rfl ?_
    refine u_step (o_moveV (v := .loc _ _) rfl ?_)
    refine u_step (g_mcall (s108 s1 (by omega)) hM8 rfl fun o22 hb22 hk22 => ?_)
    have hB8_22 := (hk22 _ (by omega)).trans hB8
    have hZ8_22 := (hk22 _ (by omega)).trans hZ8
    refine uf th83 th27 hB8_22 ?_
    refine u_step0 (g_sta rfl (congrArg SV.d (encV_eq _)) th27 rfl hB8_22 (by simp [valCells]) fun o23 hb23 hk23 => ?_)
    have hZ8_23 := (hk23 _ (by omega)).trans hZ8_22
    have hb22_23 := (hk23 _ (by omega)).trans hb22
    refine u_nil ?_
    refine hK18 _ ?_
    refine WP.seq fun K24 hK24 => ?_
    refine wr ?_
    refine ug th83 hb23 ?_
    refine u_step (o_pcall (s73 _ hok) rfl ?_)
    refine uN ?_
    refine u_nil ?_
    refine wc (fun hc26 => ?_) (fun hc26 => ?_) <;> try simp only [Q0, Q1, Q2, Q3, Q4, Q5, Q6, Q7, Q8, ge_iff_le, gt_iff_lt] at hc26
    ·
     have hm : ¬ mayD (rdD3 rdAll (rdByte s).1 ns s1).1 = true := by rw [hd3]; simpa using hc26
     have hr := hrd.trans (spoil_no hm)
     rw [hd3] at hr
     refine WP.reg tabOk rfl ?_
     refine u_step (o_moveV (v := .loc _ _) rfl ?_)
     refine u_step (g_mcall (s109 _) hb22_23 rfl fun o27 hb27 hk27 => ?_)
     have hZ8_27 := (hk27 _ (by omega)).trans hZ8_23
     have hb23_27 := (hk27 _ (by omega)).trans hb23
     refine u_nil ?_
     refine hK24 _ ?_
     refine wr ?_
     refine ug th83 hb23_27 ?_
     refine u_step0 (g_sta rfl rfl th83 rfl hZ8_27 (by first | (simp; done) | (simp [D.leaves, D.width, valCells]; done) | decide) fun o29 hb29 hk29 => ?_)
     have hb23_29 := (hk29 _ (by omega)).trans hb23_27
     have hb27_29 := (hk29 _ (by omega)).trans hb27
     refine u_nil ?_
     refine WP.ret ?_
     refine retCM_ok (resis_agg rfl th83 rfl hb29 rfl rfl rfl) ?_ (by omega) (by rw [hr]; exact hb27_29) (fun t ht => (hk29 t (by omega)).trans ((hk27 t (by omega)).trans ((hk23 t (by omega)).trans ((hk22 t (by omega)).trans ((hF8 t (by omega)).trans ((hF9 t (by omega)).trans ((hfr t (by omega)))))))))
     rw [hr]; exact D.le_refl _
    ·
     have hm : mayD (rdD3 rdAll (rdByte s).1 ns s1).1 = true := by rw [hd3]; simpa using hc26
     have hr := hrd.trans (spoil_yes hm)
     rw [hd3] at hr
     refine WP.skip ?_
     refine hK24 _ ?_
     refine wr ?_
     refine ug th83 hb23 ?_
     refine u_step0 (g_sta rfl rfl th83 rfl hZ8_23 (by first | (simp; done) | (simp [D.leaves, D.width, valCells]; done) | decide) fun o31 hb31 hk31 => ?_)
     have hb22_31 := (hk31 _ (by omega)).trans hb22_23
     have hb23_31 := (hk31 _ (by omega)).trans hb23
     refine u_nil ?_
     refine WP.ret ?_
     refine retCM_ok (resis_agg rfl th83 rfl hb31 rfl rfl rfl) ?_ (by omega) (by rw [hr]; exact hb22_31) (fun t ht => (hk31 t (by omega)).trans ((hk23 t (by omega)).trans ((hk22 t (by omega)).trans ((hF8 t (by omega)).trans ((hF9 t (by omega)).trans ((hfr t (by omega))))))))
     rw [hr]; exact D.le_refl _
   ·
    have g1 : ¬ (rdByte s).1 = 1 := by simpa using hc21
    refine wr ?_
    refine ub ?_
    refine ua ?_
    refine u_nil ?_
    refine wc (fun hc33 => ?_) (fun hc33 => ?_) <;> try simp only [Q0, Q1, Q2, Q3, Q4, Q5, Q6, Q7, Q8, ge_iff_le, gt_iff_lt] at hc33
    ·
     have g3 : (rdByte s).1 = 3 := by simpa using hc33
     have hd3 : rdD3 rdAll (rdByte s).1 ns s1 = ((⟨(rdByte s).1, ns, .mk 0 0 [] [] [], (cntS s1 999).1⟩ : Dlt), (cntS s1 999).2) := (if_neg g1).trans (if_pos g3)
     have hok : okD (⟨(rdByte s).1, ns, .mk 0 0 [] [] [], (cntS s1 999).1⟩ : Dlt) := ⟨⟨by decide, trivial⟩, by simp [szV, szVs, szN]⟩
     refine WP.reg tabOk rfl ?_
     refine u_step (o_moveV (v := .loc _ _) rfl ?_)
     refine u_step (g_mcall (s92 _ 999) hM8 rfl fun o34 hb34 hk34 => ?_)
     have hB8_34 := (hk34 _ (by omega)).trans hB8
     have hZ8_34 := (hk34 _ (by omega)).trans hZ8
     refine uf th83 th3 hB8_34 ?_
     refine u_step0 (g_st rfl rfl rfl th3 rfl hB8_34 (by first | (simp; done) | (simp [D.leaves, D.width]; done) | decide) fun o35 hb35 hk35 => ?_)
     have hZ8_35 := (hk35 _ (by omega)).trans hZ8_34
     have hb34_35 := (hk35 _ (by omega)).trans hb34
     refine u_nil ?_
     refine hK18 _ ?_
     refine WP.seq fun K36 hK36 => ?_
     refine wr ?_
     refine ug th83 hb35 ?_
     refine u_step (o_pcall (s73 _ hok) rfl ?_)
     refine uN ?_
     refine u_nil ?_
     refine wc (fun hc38 => ?_) (fun hc38 => ?_) <;> try simp only [Q0, Q1, Q2, Q3, Q4, Q5, Q6, Q7, Q8, ge_iff_le, gt_iff_lt] at hc38
     ·
      have hm : ¬ mayD (rdD3 rdAll (rdByte s).1 ns s1).1 = true := by rw [hd3]; simpa using hc38
      have hr := hrd.trans (spoil_no hm)
      rw [hd3] at hr
      refine WP.reg tabOk rfl ?_
      refine u_step (o_moveV (v := .loc _ _) rfl ?_)
      refine u_step (g_mcall (s109 _) hb34_35 rfl fun o39 hb39 hk39 => ?_)
      have hZ8_39 := (hk39 _ (by omega)).trans hZ8_35
      have hb35_39 := (hk39 _ (by omega)).trans hb35
      refine u_nil ?_
      refine hK36 _ ?_
      refine wr ?_
      refine ug th83 hb35_39 ?_
      refine u_step0 (g_sta rfl rfl th83 rfl hZ8_39 (by first | (simp; done) | (simp [D.leaves, D.width, valCells]; done) | decide) fun o41 hb41 hk41 => ?_)
      have hb35_41 := (hk41 _ (by omega)).trans hb35_39
      have hb39_41 := (hk41 _ (by omega)).trans hb39
      refine u_nil ?_
      refine WP.ret ?_
      refine retCM_ok (resis_agg rfl th83 rfl hb41 rfl rfl rfl) ?_ (by omega) (by rw [hr]; exact hb39_41) (fun t ht => (hk41 t (by omega)).trans ((hk39 t (by omega)).trans ((hk35 t (by omega)).trans ((hk34 t (by omega)).trans ((hF8 t (by omega)).trans ((hF9 t (by omega)).trans ((hfr t (by omega)))))))))
      rw [hr]; exact D.le_refl _
     ·
      have hm : mayD (rdD3 rdAll (rdByte s).1 ns s1).1 = true := by rw [hd3]; simpa using hc38
      have hr := hrd.trans (spoil_yes hm)
      rw [hd3] at hr
      refine WP.skip ?_
      refine hK36 _ ?_
      refine wr ?_
      refine ug th83 hb35 ?_
      refine u_step0 (g_sta rfl rfl th83 rfl hZ8_35 (by first | (simp; done) | (simp [D.leaves, D.width, valCells]; done) | decide) fun o43 hb43 hk43 => ?_)
      have hb34_43 := (hk43 _ (by omega)).trans hb34_35
      have hb35_43 := (hk43 _ (by omega)).trans hb35
      refine u_nil ?_
      refine WP.ret ?_
      refine retCM_ok (resis_agg rfl th83 rfl hb43 rfl rfl rfl) ?_ (by omega) (by rw [hr]; exact hb34_43) (fun t ht => (hk43 t (by omega)).trans ((hk35 t (by omega)).trans ((hk34 t (by omega)).trans ((hF8 t (by omega)).trans ((hF9 t (by omega)).trans ((hfr t (by omega))))))))
      rw [hr]; exact D.le_refl _
    ·
     have g3 : ¬ (rdByte s).1 = 3 := by simpa using hc33
     have hd3 : rdD3 rdAll (rdByte s).1 ns s1 = ((⟨(rdByte s).1, ns, .mk 0 0 [] [] [], 0⟩ : Dlt), s1) := (if_neg g1).trans (if_neg g3)
     have hok : okD (⟨(rdByte s).1, ns, .mk 0 0 [] [] [], 0⟩ : Dlt) := ⟨⟨by decide, trivial⟩, by simp [szV, szVs, szN]⟩
     refine WP.skip ?_
     refine hK18 _ ?_
     refine WP.seq fun K44 hK44 => ?_
     refine wr ?_
     refine ug th83 hB8 ?_
     refine u_step (o_pcall (s73 _ hok) rfl ?_)
     refine uN ?_
     refine u_nil ?_
     refine wc (fun hc46 => ?_) (fun hc46 => ?_) <;> try simp only [Q0, Q1, Q2, Q3, Q4, Q5, Q6, Q7, Q8, ge_iff_le, gt_iff_lt] at hc46
     ·
      have hm : ¬ mayD (rdD3 rdAll (rdByte s).1 ns s1).1 = true := by rw [hd3]; simpa using hc46
      have hr := hrd.trans (spoil_no hm)
      rw [hd3] at hr
      refine WP.reg tabOk rfl ?_
      refine u_step (o_moveV (v := .loc _ _) rfl ?_)
      refine u_step (g_mcall (s109 _) hM8 rfl fun o47 hb47 hk47 => ?_)
      have hB8_47 := (hk47 _ (by omega)).trans hB8
      have hZ8_47 := (hk47 _ (by omega)).trans hZ8
      refine u_nil ?_
      refine hK44 _ ?_
      refine wr ?_
      refine ug th83 hB8_47 ?_
      refine u_step0 (g_sta rfl rfl th83 rfl hZ8_47 (by first | (simp; done) | (simp [D.leaves, D.width, valCells]; done) | decide) fun o49 hb49 hk49 => ?_)
      have hB8_49 := (hk49 _ (by omega)).trans hB8_47
      have hb47_49 := (hk49 _ (by omega)).trans hb47
      refine u_nil ?_
      refine WP.ret ?_
      refine retCM_ok (resis_agg rfl th83 rfl hb49 rfl rfl rfl) ?_ (by omega) (by rw [hr]; exact hb47_49) (fun t ht => (hk49 t (by omega)).trans ((hk47 t (by omega)).trans ((hF8 t (by omega)).trans ((hF9 t (by omega)).trans ((hfr t (by omega)))))))
      rw [hr]; exact D.le_refl _
     ·
      have hm : mayD (rdD3 rdAll (rdByte s).1 ns s1).1 = true := by rw [hd3]; simpa using hc46
      have hr := hrd.trans (spoil_yes hm)
      rw [hd3] at hr
      refine WP.skip ?_
      refine hK44 _ ?_
      refine wr ?_
      refine ug th83 hB8 ?_
      refine u_step0 (g_sta rfl rfl th83 rfl hZ8 (by first | (simp; done) | (simp [D.leaves, D.width, valCells]; done) | decide) fun o51 hb51 hk51 => ?_)
      have hM8_51 := (hk51 _ (by omega)).trans hM8
      have hB8_51 := (hk51 _ (by omega)).trans hB8
      refine u_nil ?_
      refine WP.ret ?_
      refine retCM_ok (resis_agg rfl th83 rfl hb51 rfl rfl rfl) ?_ (by omega) (by rw [hr]; exact hM8_51) (fun t ht => (hk51 t (by omega)).trans ((hF8 t (by omega)).trans ((hF9 t (by omega)).trans ((hfr t (by omega))))))
      rw [hr]; exact D.le_refl _
 ·
  refine ⟨by omega, by omega, by omega, by simp, rfl, hb9, hb6_9, hb2_9, rfl, by simp, (fun t ht => (hk9 t (by omega)).trans ((hk6 t (by omega)).trans ((hk5 t (by omega)).trans ((hk4 t (by omega)).trans ((hk2 t (by omega)))))))⟩
 ·
  refine Le.al ?_
  simp only [List.forall_mem_cons]
  exact ⟨rfl, rfl, rfl, rfl, rfl, by simp⟩

end Go.Proofs.YtpkcbdhjnnnkbaaGreat.Abs

set_option linter.unusedVariables false
set_option linter.unusedSimpArgs false
set_option maxRecDepth 10000
set_option maxHeartbeats 1000000
namespace Go.Proofs.YtpkcbdhjnnnkbaaGreat.Abs
open Go
theorem rdD3_le (k : Int) (ns : List Str) (s : SB) : (rdD3 rdAll k ns s).2.1.length ≤ s.1.length := by
  unfold rdD3; split
  · exact rdAll_le s
  · split
    · exact cnt_le _ _
    · exact Nat.le_refl _
theorem spoil_len (p : Dlt × SB) : (spoilD p).2.1.length = p.2.1.length := by unfold spoilD; simp only; split <;> rfl
theorem rdDl_le (s : SB) : (rdDl s).2.1.length ≤ s.1.length := by
  unfold rdDl
  rw [spoil_len]
  exact Nat.le_trans (rdD3_le _ _ _) (Nat.le_trans (rdTs_le _ _ _) (Nat.le_trans (cnt_le _ _) (byte_le s)))
/-- Deltas, one behind the other; the program goes on where the source is bad. -/
def rdDls : Nat → SB → List Dlt → List Dlt × SB
  | 0, s, ds => (ds, s)
  | n + 1, s, ds => rdDls n (rdDl s).2 (if (rdDl s).2.2 = true then ds else ds ++ [(rdDl s).1])
def rdDq (r : List Dlt × SB) : List Dlt × SB := (if r.2.2 = true then [] else r.1, r.2)
def rdDsP (s : SB) : List Dlt × SB := rdDq (rdDls (cntS s 64).1.toNat (cntS s 64).2 [])
theorem rdDq_no {r : List Dlt × SB} (h : r.2.2 = true) : rdDq r = ([], r.2) := by unfold rdDq; rw [if_pos h]
theorem rdDq_ok {r : List Dlt × SB} (h : ¬ r.2.2 = true) : rdDq r = r := by unfold rdDq; rw [if_neg h]
theorem mapD_snoc (ds : List Dlt) (d : Dlt) : (ds ++ [d]).map encD = ds.map encD ++ [encD d] := by simp
theorem fn38 : FnOk Tryz.prog 38 22 [2] (bodyOf Tryz.f38) := ⟨Tryz.f38, Tryz.func38, by kernel_rfl, by decide, by kernel_rfl, by kernel_rfl⟩
theorem s38 (s : SB) (hx : s.1.length ≤ 1048576) : MSpec Tryz.prog 38 (fun k => [.loc k 0]) (srcS s) (srcS (rdDsP s).2) (.d (.sl 8 ((rdDsP s).1.map encD))) := by
 have hcr := cnt_rng s 64 (by decide)
 have hcl := cnt_le s 64
 refine MSpec.ofW fn38 (fun _ => by simp) (fun _ => by first | exact srcS_lts _ _ | simp [SV.lts, SV.lt]) fun o nk k hkn hM => ?_
 refine wr ?_
 refine ua ?_
 refine u_nil ?_
 refine wr ?_
 refine ua ?_
 refine u_nil ?_
 refine WP.seq fun K3 hK3 => ?_
 refine wr ?_
 refine u_step (o_moveV (v := .loc _ _) rfl ?_)
 refine u_step (g_mcall (s92 s 64) hM rfl fun o5 hb5 hk5 => ?_)
 refine um ?_
 refine u_nil ?_
 refine WP.block ?_
 refine WP.loopL (ι := Nat × SB × List Dlt × SV × Option Nat × (Nat → Option AO) × Nat) (fun ⟨i, s1, ds, c, q, o2, nk2⟩ => ⟨al [(0, .loc k 0), (3, c), (6, .d (.int .i64 (cntS s 64).1)), (7, .d (.int .i64 i))], o2, nk2⟩) (fun ⟨i, s1, ds, c, q, o2, nk2⟩ => i ≤ (cntS s 64).1.toNat ∧ nk ≤ nk2 ∧ s1.1.length ≤ 1048576 ∧ ds.length ≤ i ∧ rdDls ((cntS s 64).1.toNat - i) s1 ds = rdDls (cntS s 64).1.toNat (cntS s 64).2 [] ∧ o2 k = some (.box (srcS s1)) ∧ dstOf o2 83 8 c = some (q, ds.map encD) ∧ (∀ t, q = some t → nk ≤ t ∧ t < nk2) ∧ ∀ t, t < nk ∧ t ≠ k → o2 t = o t) (fun ⟨i, s1, ds, c, q, o2, nk2⟩ => (cntS s 64).1.toNat - i) (fun ⟨i, s1, ds, c, q, o2, nk2⟩ hA => ?_) ⟨0, (cntS s 64).2, [], .d .nil, none, o5, nk⟩ ?_ ?_
 ·
  obtain ⟨hle, hnk, hsl, hnl, heq, hsk, hd, hq, hfr⟩ := hA
  refine wr ?_
  refine ub ?_
  refine u_nil ?_
  refine WP.seq fun K7 hK7 => ?_
  refine wc (fun hc8 => ?_) (fun hc8 => ?_) <;> try simp only [Q0, Q1, Q2, Q3, Q4, Q5, Q6, Q7, Q8, ge_iff_le, gt_iff_lt] at hc8
  ·
   have hlt : i < (cntS s 64).1.toNat := by have hgo := hc8; (try simp at hgo); omega
   refine WP.skip ?_
   refine hK7 _ ?_
   refine WP.seq fun K9 hK9 => ?_
   refine WP.block ?_
   refine wr ?_
   refine u_step (o_moveV (v := .loc _ _) rfl ?_)
   refine u_step (g_mcall (s93 s1 (by omega)) hsk rfl fun o11 hb11 hk11 => ?_)
   have hd_11 := dst_keep hd fun t e => hk11 t (by have := hq t e; omega)
   refine u_step (g_alloc th83 rfl fun o12 hb12 hk12 => ?_)
   have hd_12 := dst_keep hd_11 fun t e => hk12 t (by have := hq t e; omega)
   have hb11_12 := (hk12 _ (by omega)).trans hb11
   refine u_step0 (g_sta rfl rfl th83 rfl hb12 (by first | (simp; done) | (simp [D.leaves, D.width, valCells]; done) | decide) fun o13 hb13 hk13 => ?_)
   have hd_13 := dst_keep hd_12 fun t e => hk13 t (by have := hq t e; omega)
   have hb11_13 := (hk13 _ (by omega)).trans hb11_12
   refine u_nil ?_
   refine wr ?_
   refine u_step (o_moveV (v := .loc _ _) rfl ?_)
   refine u_step (o_scall (s41 _ hb11_13) rfl ?_)
   refine uN ?_
   refine u_nil ?_
   refine wc (fun hc15 => ?_) (fun hc15 => ?_) <;> try simp only [Q0, Q1, Q2, Q3, Q4, Q5, Q6, Q7, Q8, ge_iff_le, gt_iff_lt] at hc15
   ·
    have hb0 : ¬ (rdDl s1).2.2 = true := by have hgo := hc15; simpa using hgo
    refine WP.reg tabOk rfl ?_
    refine u_step (o_moveV (v := c) rfl ?_)
    refine ug th83 hb13 ?_
    first | refine u_step (o_bs rfl th28 rfl th83 rfl rfl (by decide) rfl (by decide) (by decide) ?_) | refine u_step (o_bs1 rfl (by simp only [encV_width]) th28 rfl th83 rfl rfl (by decide) (by decide) ?_)
    refine u_step (g_apD2 rfl th28 rfl th83 rfl rfl (by decide) rfl hd_13 (by simp only [List.length_map, List.length_cons, List.length_nil]; omega) (by simp only [List.length_map, List.length_cons, List.length_nil]; omega) fun o16 hb16 hk16 => ?_)
    have hb11_16 := (hk16 _ (by omega) (fun e => by have := hq _ e.symm; omega)).trans hb11_13
    have hb13_16 := (hk16 _ (by omega) (fun e => by have := hq _ e.symm; omega)).trans hb13
    refine u_step (o_assignV (v := .row _) rfl ?_)
    refine u_nil ?_
    refine hK9 _ ?_
    refine WP.reg tabOk rfl ?_
    refine ub ?_
    refine um ?_
    refine u_nil ?_
    -- back
    refine ⟨⟨i + 1, (rdDl s1).2, ds ++ [(rdDl s1).1], .row _, some _, o16, ((nk2 + 1) + 1)⟩, ⟨by omega, by omega, by have := rdDl_le s1; omega, by simp; omega, ?_, hb11_16, (mapD_snoc ds _).symm ▸ dst_row hb16, fun t e => by injection e with e; omega, (fun t ht => (hk16 t (by omega) (fun e => by have := hq _ e.symm; omega)).trans ((hk13 t (by omega)).trans ((hk12 t (by omega)).trans ((hk11 t (by omega)).trans ((hfr t (by omega)))))))⟩, by simp only; omega, Le.al ?_⟩
    · rw [← heq, show (cntS s 64).1.toNat - i = ((cntS s 64).1.toNat - (i + 1)) + 1 by omega]; simp only [rdDls]; rw [if_neg hb0]
    · simp only [List.forall_mem_cons]
      exact ⟨rfl, rfl, rfl, cnt (by omega), by simp⟩
   ·
    have hb0 : (rdDl s1).2.2 = true := by have hgo := hc15; simpa using hgo
    refine WP.skip ?_
    refine hK9 _ ?_
    refine WP.reg tabOk rfl ?_
    refine ub ?_
    refine um ?_
    refine u_nil ?_
    -- back
    refine ⟨⟨i + 1, (rdDl s1).2, ds, c, q, o13, (nk2 + 1)⟩, ⟨by omega, by omega, by have := rdDl_le s1; omega, by omega, ?_, hb11_13, hd_13, fun t e => by have := hq t e; omega, (fun t ht => (hk13 t (by omega)).trans ((hk12 t (by omega)).trans ((hk11 t (by omega)).trans ((hfr t (by omega))))))⟩, by simp only; omega, Le.al ?_⟩
    · rw [← heq, show (cntS s 64).1.toNat - i = ((cntS s 64).1.toNat - (i + 1)) + 1 by omega]; simp only [rdDls]; rw [if_pos hb0]
    · simp only [List.forall_mem_cons]
      exact ⟨rfl, rfl, rfl, cnt (by omega), by simp⟩
  ·
   have hge : (cntS s 64).1.toNat - i = 0 := by have hgo := hc8; (try simp at hgo); omega
   have hfin : rdDls (cntS s 64).1.toNat (cntS s 64).2 [] = (ds, s1) := by rw [← heq, hge]; rfl
   have hrd : rdDsP s = rdDq (ds, s1) := by unfold rdDsP; rw [hfin]
   refine WP.exit ?_
   refine hK3 _ ?_
   refine WP.seq fun K17 hK17 => ?_
   refine wr ?_
   refine u_step (o_moveV (v := .loc _ _) rfl ?_)
   refine u_step (o_scall (s41 s1 hsk) rfl ?_)
   refine u_nil ?_
   refine wc (fun hc19 => ?_) (fun hc19 => ?_) <;> try simp only [Q0, Q1, Q2, Q3, Q4, Q5, Q6, Q7, Q8, ge_iff_le, gt_iff_lt] at hc19
   ·
    have hr : rdDsP s = ([], s1) := hrd.trans (rdDq_no (by simpa using hc19))
    refine wr ?_
    refine ua ?_
    refine u_nil ?_
    refine WP.ret ?_
    refine retMW_ok rfl ?_ (by omega) (by rw [hr]; exact hsk) (fun t ht => (hfr t (by omega)))
    rw [hr]; exact rfl
   ·
    have hr : rdDsP s = (ds, s1) := hrd.trans (rdDq_ok (by simpa using hc19))
    refine WP.skip ?_
    refine hK17 _ ?_
    refine WP.frzS (fun y => [(0, .loc k 0), (3, .d y)]) nk hd (fun t h1 h2 => by subst h2; simp only [List.forall_mem_cons]; exact ⟨rfl, (show SV.frz t (.sl 8 (ds.map encD)) (.row t) = _ from if_pos rfl), by simp⟩) (fun h2 => by subst h2; simp only [List.forall_mem_cons]; exact ⟨rfl, rfl, by simp⟩) fun y o9 hy hk9 => ?_
    have hF9 : ∀ t, t < nk → o9 t = o2 t := fun t ht => hk9 t ht (fun h => by have := hq t h; omega)
    have hM9 := (hF9 _ hkn).trans hsk
    refine wr ?_
    refine um ?_
    refine ua ?_
    refine u_nil ?_
    refine WP.ret ?_
    refine retMW_ok rfl ?_ (by omega) (by rw [hr]; exact hM9) (fun t ht => (hF9 t (by omega)).trans ((hfr t (by omega))))
    rw [hr]; exact hy
 ·
  refine ⟨by omega, by omega, by omega, by simp, rfl, hb5, rfl, by simp, (fun t ht => (hk5 t (by omega)))⟩
 ·
  refine Le.al ?_
  simp only [List.forall_mem_cons]
  exact ⟨rfl, rfl, rfl, rfl, by simp⟩

end Go.Proofs.YtpkcbdhjnnnkbaaGreat.Abs
