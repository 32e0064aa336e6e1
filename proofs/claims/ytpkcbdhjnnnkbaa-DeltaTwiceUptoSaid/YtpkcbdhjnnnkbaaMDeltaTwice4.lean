/- Part 4 of the proof that DeltaTwice: called with any value and any changes that hold together at most 1048576 values and letters, the law answers true, and both read afterwards as they read before. -/
import Derived.Test.YtpkcbdhjnnnkbaaMDeltaTwice3
import Derived.Test.YtpkcbdhjnnnkbaaMDeltaTwice2
import Derived.Test.YtpkcbdhjnnnkbaaProg
import Derived.KernelRfl
import Derived.Laws.Externs
import Derived.Lib.Bytealg
set_option linter.unusedSectionVars false
set_option linter.unusedSimpArgs false
set_option linter.unusedVariables false
set_option maxRecDepth 100000
namespace Go.Proofs.Ytpkcbdhjnnnkbaa.Abs
open Go
variable {σ : Nat → D}
section
variable (G : Oper → XS → Option XR)
def yDrP (al : List Al) : List Oper → List KdP → XS → Option (List SV × List (TM AO × Nat) × TM SV)
  | [], [], s => some ([], [], s.sl)
  | op :: r, .w j :: ks, s => match matX (lsAt al j) s with
    | s1 => match G op s1 with
      | none => none
      | some (v, o', nk') => match yDrP al r ks ⟨putD s1.sl op.dst v, o', nk'⟩ with
        | none => none
        | some (vs, phs, sl) => some (v :: vs, (o', nk') :: phs, sl)
  | op :: r, .q _ _ :: ks, s => match G op s with
    | none => none
    | some (v, _, _) => match yDrP al r ks ⟨putD s.sl op.dst v, s.o, s.nk⟩ with
      | none => none
      | some (vs, phs, sl) => some (v :: vs, phs, sl)
  | op :: r, .a _ _ :: ks, s => match yDrP al r ks s with
    | none => none
    | some (vs, phs, sl) => some (.any :: vs, phs, sl)
  | _, _, _ => none
def yChkP (al : List Al) (L : List (TM AO × Nat)) : List Oper → List KdP → List SV → TM SV → Nat → Bool
  | [], [], [], _, _ => true
  | op :: r, .w j :: ks, v :: vs, sl, p => decide (j = p) && (match L[j]? with
    | none => false
    | some (o, nk) => yChkP al L r ks vs (putD (matX (lsAt al j) ⟨sl, o, nk⟩).sl op.dst v) (p + 1))
  | op :: r, .q lo hi :: ks, v :: vs, sl, p => isQ op.op && (allX (hi - lo) (fun q => match L[q]? with
      | none => false
      | some (o, nk) => match G op ⟨sl, o, nk⟩ with
        | none => false
        | some (v2, _, nk2) => SV.eqb v v2 && decide (nk2 = nk)) lo) && yChkP al L r ks vs (putD sl op.dst v) p
  | op :: r, .a _ _ :: ks, v :: vs, sl, p => yChkP al L r ks vs sl p
  | _, _, _, _, _ => false
end
theorem yDrP_len {G : Oper → XS → Option XR} {al : List Al} : ∀ (l : List Oper) (ks : List KdP) (s : XS) (vs : List SV) (phs : List (TM AO × Nat)) (fsl : TM SV), yDrP G al l ks s = some (vs, phs, fsl) → vs.length = l.length ∧ ks.length = vs.length
  | [], [], s, vs, phs, fsl, h => by simp only [yDrP, Option.some.injEq, Prod.mk.injEq] at h; obtain ⟨rfl, _, _⟩ := h; exact ⟨rfl, rfl⟩
  | [], k :: ks, s, vs, phs, fsl, h => by simp [yDrP] at h
  | op :: r, [], s, vs, phs, fsl, h => by simp [yDrP] at h
  | op :: r, .w j :: ks, s, vs, phs, fsl, h => by
    simp only [yDrP] at h
    split at h
    · cases h
    · split at h
      · cases h
      · rename_i hx
        simp only [Option.some.injEq, Prod.mk.injEq] at h
        obtain ⟨rfl, _, _⟩ := h
        have := yDrP_len r ks _ _ _ _ hx
        simp [this.1, this.2]
  | op :: r, .q lo hi :: ks, s, vs, phs, fsl, h => by
    simp only [yDrP] at h
    split at h
    · cases h
    · split at h
      · cases h
      · rename_i hx
        simp only [Option.some.injEq, Prod.mk.injEq] at h
        obtain ⟨rfl, _, _⟩ := h
        have := yDrP_len r ks _ _ _ _ hx
        simp [this.1, this.2]
  | op :: r, .a j k :: ks, s, vs, phs, fsl, h => by
    simp only [yDrP] at h
    split at h
    · cases h
    · rename_i hx
      simp only [Option.some.injEq, Prod.mk.injEq] at h
      obtain ⟨rfl, _, _⟩ := h
      have := yDrP_len r ks _ _ _ _ hx
      simp [this.1, this.2]
theorem matX_si : ∀ (r : List Al) (s : XS), (∀ b ∈ r, D.grs b.l = true) → (matX r s).si σ = matX r (s.si σ)
  | [], s, _ => rfl
  | b :: r, s, h => by
    rw [matX, matX, matX_si r _ fun c hc => h c (by simp [hc])]
    congr 1
    simp [XS.si, TM.mapT_set, SV.si, AO.si]
    have := map_gr2 (σ := σ) (h b (by simp))
    simpa [List.map_map] using congrArg (fun l => TM.set (TM.mapT (AO.si σ) s.o) s.nk (some (AO.box l))) this
theorem yDrP_ok {P : Program} {Θ : Tab} {ops : Array Oper} {G : Oper → XS → Option XR} (hG : GOk P Θ σ ops G) {kd : List KdP} {wr : List Nat} {al : List Al} (hgr : ∀ b ∈ al, D.grs b.l = true) (fit : FitP Θ ops kd wr al) (hflow : flowOk ops = true) {L : List (TM AO × Nat)} {vsF : List SV} {sl0 : Nat → SV} (hvl : vsF.length = ops.size) (hLl : wr.length < L.length)
    (hal : ∀ (i j k : Nat) (v : SV), kd[i]? = some (.a j k) → vsF[i]? = some v → v = match L[j]? with
      | some (_, nk) => .loc (nk + k) 0
      | none => .any) {fsl : TM SV} :
    ∀ (l : List Oper) (ks : List KdP) (s : XS) (vs : List SV) (phs pre : List (TM AO × Nat)) (i p : Nat), l = ops.toList.drop i → ks = kd.drop i → yDrP G al l ks s = some (vs, phs, fsl) → pre.length = p → L = pre ++ (s.o, s.nk) :: phs →
      yChkP G al L l ks vs s.sl p = true → vsF.drop i = (patchV L ks vs).map (SV.si σ) →
      (∀ u, (s.si σ).st.sl u = slAt sl0 (((ops.toList.map (·.dst)).zip vsF).take i) u ∨ ∃ b ∈ al, b.t = u ∧ b.i < i ∧ ∀ x, wr[b.j]? = some x → i ≤ x) →
      (∀ (m : Nat) (o : Oper) (v : SV) (k : KdP), i ≤ m → ops[m]? = some o → vsF[m]? = some v → kd[m]? = some k → eOpP P Θ ops (phy σ L) al o (slAt sl0 (((ops.toList.map (·.dst)).zip vsF).take m)) v k) ∧
      ∀ u, ((fsl.get u).map (SV.si σ)).getD .any = slAt sl0 ((ops.toList.map (·.dst)).zip vsF) u := by
  have hwlt : ∀ j x, wr[j]? = some x → x < ops.size := fun j x hj => by
    have := (List.getElem?_eq_some_iff.1 (fit.wk j x hj)).1
    rw [fit.kl] at this
    exact this
  have hon : ∀ (i : Nat) (o : Oper), ops.toList[i]? = some o → ∀ k ∈ onsOf o, k < i := fun i o ho => (flow_spec hflow (by simpa using ho)).1
  have hancL : ∀ (n i k : Nat), k ∈ (ancs ops.toList n).getD i [] → k < i := by
    intro n
    induction n with
    | zero => intro i k hk; simp [ancs] at hk
    | succ n ih =>
      intro i k hk
      by_cases hi : i < n
      · rw [ancs, List.getD_eq_getElem?_getD, List.getElem?_append_left (by rw [ancs_length]; exact hi), ← List.getD_eq_getElem?_getD] at hk
        exact ih i k hk
      · by_cases he : i = n
        · subst he
          rw [ancs, List.getD_eq_getElem?_getD, List.getElem?_append_right (by rw [ancs_length]; exact Nat.le_refl _), ancs_length, Nat.sub_self] at hk
          cases ho : ops.toList[i]? with
          | none => rw [ho] at hk; simp at hk
          | some o =>
            rw [ho] at hk
            simp only [List.getElem?_cons_zero, Option.getD_some, List.mem_eraseDups, List.mem_append, List.mem_flatMap] at hk
            rcases hk with hk | ⟨j, hj, hk⟩
            · exact hon i o ho k hk
            · have := hon i o ho j hj
              have := ih j k hk
              omega
        · rw [List.getD_eq_getElem?_getD, List.getElem?_eq_none (by rw [ancs_length]; omega)] at hk
          simp at hk
  have hanc : ∀ i k, ancB ops.toList i k = true → k < i := fun i k h => hancL _ i k (by simpa [ancB] using h)
  have hprs : ∀ (i : Nat) (o : Oper) (v : SV), ops[i]? = some o → vsF[i]? = some v → ((ops.toList.map (·.dst)).zip vsF)[i]? = some (o.dst, v) := fun i o v ho hv => by
    rw [List.getElem?_zip_eq_some]
    refine ⟨?_, hv⟩
    rw [List.getElem?_map]
    have : ops.toList[i]? = some o := by simpa using ho
    rw [this]; rfl
  have hback : ∀ (j : Nat) (d : Option Nat) (v : SV), ((ops.toList.map (·.dst)).zip vsF)[j]? = some (d, v) → ∃ o, ops[j]? = some o ∧ o.dst = d ∧ vsF[j]? = some v := fun j d v hj => by
    rw [List.getElem?_zip_eq_some, List.getElem?_map] at hj
    obtain ⟨h1, h2⟩ := hj
    obtain ⟨o, ho, rfl⟩ := Option.map_eq_some_iff.1 h1
    exact ⟨o, by simpa using ho, rfl, h2⟩
  have huniq : Uniq ((ops.toList.map (·.dst)).zip vsF) := fun i j u v x hi hj => by
    obtain ⟨o, ho, hod, _⟩ := hback i _ v hi
    obtain ⟨p, hp, hpd, _⟩ := hback j _ x hj
    have := (flow_spec hflow ho).2 j p hp
    simp only [flowAt, hpd, Bool.and_eq_true, Bool.or_eq_true, beq_iff_eq] at this
    rcases this.1 with h1 | h1
    · exact h1
    · simp [hod] at h1
  have hsnoc : ∀ (i : Nat) (o : Oper) (v : SV), ops[i]? = some o → vsF[i]? = some v → slAt sl0 (((ops.toList.map (·.dst)).zip vsF).take (i + 1)) = pt (slAt sl0 (((ops.toList.map (·.dst)).zip vsF).take i)) o.dst v := fun i o v ho hv => by
    rw [List.take_add_one, hprs i o v ho hv]
    exact slAt_snoc (sl := sl0) _ _
  have hpt : ∀ (f g : Nat → SV) (d : Option Nat) (v : SV) (u : Nat), f u = g u → pt f d v u = pt g d v u := fun f g d v u h => by
    cases d with
    | none => exact h
    | some d => simp only [pt, upd, h]
  have hptd : ∀ (f g : Nat → SV) (d : Option Nat) (v : SV) (u : Nat), d = some u → pt f d v u = pt g d v u := fun f g d v u h => by
    subst h; simp [pt, upd_same]
  have hptn : ∀ (f : Nat → SV) (d : Option Nat) (v : SV) (u : Nat), d ≠ some u → pt f d v u = f u := fun f d v u h => by
    cases d with
    | none => rfl
    | some d => exact upd_ne _ _ fun e => h (by rw [e])
  have hlook : ∀ (i : Nat) (o : Oper) (b : Al), ops[i]? = some o → b ∈ al → b.t ∈ o.looksAt ops → (∀ x, wr[b.j]? = some x → i ≤ x) → wr[b.j]? = some i := fun i o b ho hb hlk hx => by
    rcases fit.us b hb i o ho hlk with h | ⟨x, h1, h2⟩
    · exact h
    · have := hx x h1
      have := hanc _ _ h2
      omega
  intro l
  induction l with
  | nil =>
    intro ks s vs phs pre i p hl hks h hp hL hk hvs hinv
    cases ks with
    | cons k ks => simp [yDrP] at h
    | nil =>
      simp only [yDrP, Option.some.injEq, Prod.mk.injEq] at h
      obtain ⟨rfl, rfl, rfl⟩ := h
      have hi : ops.size ≤ i := by
        have := congrArg List.length hl
        simp at this; omega
      refine ⟨fun m o v k hm ho => ?_, fun u => ?_⟩
      · have := (Array.getElem?_eq_some_iff.1 ho).1
        omega
      · have e : ((ops.toList.map (·.dst)).zip vsF).take i = (ops.toList.map (·.dst)).zip vsF := List.take_of_length_le (by simp [hvl]; omega)
        rcases hinv u with h | ⟨b, hb, rfl, h1, h2⟩
        · rw [← e, ← h, slY]
        · obtain ⟨_, x, hx, _⟩ := fit.aA b hb
          have := h2 x hx
          have := hwlt _ _ hx
          omega
  | cons op r ihl =>
    intro ks s vs phs pre i p hl hks h hp hL hk hvs hinv
    obtain ⟨hop, hr⟩ := drop_cons hl
    have hop : ops[i]? = some op := by simpa using hop
    have hilt : i < ops.size := (Array.getElem?_eq_some_iff.1 hop).1
    obtain ⟨v', hv'⟩ : ∃ v', vsF[i]? = some v' := ⟨_, List.getElem?_eq_getElem (by omega)⟩
    have hsn := hsnoc i op v' hop hv'
    cases ks with
    | nil => simp [yDrP] at h
    | cons k ks =>
      obtain ⟨hki, hks2⟩ := drop_cons hks
      have fin : ∀ (Z : Prop), (∀ (m : Nat) (o : Oper) (v : SV) (k : KdP), i + 1 ≤ m → ops[m]? = some o → vsF[m]? = some v → kd[m]? = some k → eOpP P Θ ops (phy σ L) al o (slAt sl0 (((ops.toList.map (·.dst)).zip vsF).take m)) v k) ∧ Z →
          eOpP P Θ ops (phy σ L) al op (slAt sl0 (((ops.toList.map (·.dst)).zip vsF).take i)) v' k →
          (∀ (m : Nat) (o : Oper) (v : SV) (k : KdP), i ≤ m → ops[m]? = some o → vsF[m]? = some v → kd[m]? = some k → eOpP P Θ ops (phy σ L) al o (slAt sl0 (((ops.toList.map (·.dst)).zip vsF).take m)) v k) ∧ Z := by
        rintro Z ⟨h1, h2⟩ h3
        refine ⟨fun m o v q hm ho hv hq => ?_, h2⟩
        by_cases hmi : m = i
        · subst hmi
          rw [hop] at ho; rw [hv'] at hv; rw [hki] at hq
          simp only [Option.some.injEq] at ho hv hq
          subst ho; subst hv; subst hq
          exact h3
        · exact h1 m o v q (by omega) ho hv hq
      cases k with
      | a j k =>
        simp only [yDrP] at h
        split at h
        · cases h
        · rename_i vs1 phs1 sl1 hx
          simp only [Option.some.injEq, Prod.mk.injEq] at h
          obtain ⟨rfl, rfl, rfl⟩ := h
          simp only [yChkP] at hk
          rw [patchV, List.map_cons] at hvs
          obtain ⟨_, hvs2⟩ := drop_cons hvs.symm
          obtain ⟨b, hb, hbi, hbj, hbk⟩ := fit.a i j k hki
          obtain ⟨o2, e2, i2, q1, q2, q3, q4, q5⟩ := fit.op b hb
          rw [hbi, hop] at q1
          simp only [Option.some.injEq] at q1
          subst q1
          refine fin _ (ihl ks s vs1 phs1 pre (i + 1) p hr hks2 hx hp hL hk hvs2.symm fun u => ?_) ?_
          · by_cases hu : u = b.t
            · subst hu
              obtain ⟨_, x, hx, hxa⟩ := fit.aA b hb
              refine .inr ⟨b, hb, rfl, by omega, fun y hy => ?_⟩
              rw [hx] at hy
              simp only [Option.some.injEq] at hy
              subst hy
              have := hanc _ _ hxa
              omega
            · rw [hsn, hptn _ _ _ _ (by rw [q4]; simpa using Ne.symm hu)]
              rcases hinv u with h | ⟨c, hc, h1, h2, h3⟩
              · exact .inl h
              · refine .inr ⟨c, hc, h1, by omega, fun x hx => ?_⟩
                have := h3 x hx
                have hne : x ≠ i := fun e => by
                  have := fit.wk _ _ hx
                  rw [e, hki] at this; cases this
                omega
          · show v' = _
            rw [hal i j k v' hki hv']
            simp only [phy]
            obtain ⟨_, x, hx2, _⟩ := fit.aA b hb
            have : j < L.length := by
              have := (List.getElem?_eq_some_iff.1 hx2).1
              omega
            rw [List.getElem?_eq_getElem this]
      | q lo hi =>
        simp only [yDrP] at h
        split at h
        · cases h
        · rename_i v o' nk' hx
          split at h
          · cases h
          · rename_i vs1 phs1 sl1 hx1
            simp only [Option.some.injEq, Prod.mk.injEq] at h
            obtain ⟨rfl, rfl, rfl⟩ := h
            simp only [yChkP, Bool.and_eq_true] at hk
            obtain ⟨⟨hq, hall⟩, hk⟩ := hk
            rw [patchV, List.map_cons] at hvs
            obtain ⟨hv2, hvs2⟩ := drop_cons hvs.symm
            rw [hv'] at hv2
            simp only [Option.some.injEq] at hv2
            subst hv2
            have hnw : ∀ j, wr[j]? ≠ some i := fun j hj => by
              have := fit.wk _ _ hj
              rw [hki] at this; cases this
            refine fin _ (ihl ks ⟨putD s.sl op.dst v, s.o, s.nk⟩ vs1 phs1 pre (i + 1) p hr hks2 hx1 hp hL hk hvs2.symm fun u => ?_) ?_
            · rw [putY_st]
              show pt (s.si σ).st.sl op.dst (v.si σ) u = _ ∨ _
              rw [hsn]
              by_cases hd : op.dst = some u
              · exact .inl (hptd _ _ _ _ _ hd)
              · rcases hinv u with h | ⟨c, hc, h1, h2, h3⟩
                · exact .inl (hpt _ _ _ _ _ h)
                · refine .inr ⟨c, hc, h1, by omega, fun x hx => ?_⟩
                  have := h3 x hx
                  have hne : x ≠ i := fun e => hnw _ (e ▸ hx)
                  omega
            · simp only [eOpP]
              refine allX_ok (fun q hqq => ?_) _ _ hall
              split at hqq
              · cases hqq
              · rename_i o2 nk2 hLq
                split at hqq
                · cases hqq
                · rename_i v2 o3 nk3 hg
                  simp only [Bool.and_eq_true, decide_eq_true_eq] at hqq
                  have hv := SV.eqb_ok hqq.1
                  subst hv
                  have := hG.q hq hg hqq.2
                  rw [← phy_st (σ := σ) (sl := s.sl) hLq, ← slY] at this
                  refine gOp_congr (s := ⟨(s.si σ).st.sl, (phy σ L q).1, (phy σ L q).2⟩) (fun u hu => ?_) rfl rfl this
                  rcases hinv u with h | ⟨c, hc, h1, h2, h3⟩
                  · exact h
                  · subst h1
                    exact absurd (hlook i op c hop hc hu h3) (hnw _)
      | w j =>
        simp only [yDrP] at h
        obtain ⟨hwj, hky⟩ := fit.w i j hki
        split at h
        · cases h
        · rename_i v o' nk' hx
          split at h
          · cases h
          · rename_i vs1 phs1 sl1 hx1
            simp only [Option.some.injEq, Prod.mk.injEq] at h
            obtain ⟨rfl, rfl, rfl⟩ := h
            simp only [yChkP, Bool.and_eq_true, decide_eq_true_eq] at hk
            obtain ⟨rfl, hk⟩ := hk
            have hLp : L[j]? = some (s.o, s.nk) := by rw [hL, List.getElem?_append_right (by omega), hp]; simp
            have hLp1 : L[j + 1]? = some (o', nk') := by rw [hL, List.getElem?_append_right (by omega), hp]; simp
            rw [hLp] at hk
            simp only at hk
            rw [patchV, List.map_cons] at hvs
            obtain ⟨hv2, hvs2⟩ := drop_cons hvs.symm
            rw [hv'] at hv2
            simp only [Option.some.injEq] at hv2
            subst hv2
            have hmx : (matX (lsAt al j) s).si σ = matX (lsAt al j) (s.si σ) := matX_si (lsAt al j) s fun b hb => hgr b (List.mem_filter.1 hb).1
            have hF : ∀ (pos : Nat) (b : Al), (lsAt al j)[pos]? = some b → slAt sl0 (((ops.toList.map (·.dst)).zip vsF).take i) b.t = .loc (s.nk + pos) 0 := fun pos b hb => by
              have hm := List.mem_of_getElem? hb
              simp only [lsAt, List.mem_filter, decide_eq_true_eq] at hm
              obtain ⟨hbm, hbj⟩ := hm
              obtain ⟨o2, e2, i2, q1, _, _, q4, _⟩ := fit.op b hbm
              obtain ⟨⟨k, hk⟩, x, hx, hxa⟩ := fit.aA b hbm
              obtain ⟨c, hc, hci, hcj, hck⟩ := fit.a _ _ _ hk
              obtain rfl := fit.inj c hc b hbm hci
              have hkp : k = pos := by
                rw [hbj] at hck
                obtain ⟨q1, q2⟩ := List.getElem?_eq_some_iff.1 hck
                obtain ⟨q3, q4⟩ := List.getElem?_eq_some_iff.1 hb
                rcases Nat.lt_trichotomy k pos with hlt | heq | hgt
                · exact absurd (by rw [q2, q4]) ((List.pairwise_iff_getElem.1 (fit.ndL j)) k pos q1 q3 hlt)
                · exact heq
                · exact absurd (by rw [q2, q4]) ((List.pairwise_iff_getElem.1 (fit.ndL j)) pos k q3 q1 hgt)
              rw [hbj, hwj] at hx
              simp only [Option.some.injEq] at hx
              subst hx
              have hlt := hanc _ _ hxa
              have hvb : vsF[c.i]? = some (vsF[c.i]'(by omega)) := List.getElem?_eq_getElem _
              have hval := hal c.i c.j k _ hk hvb
              rw [hbj, hLp] at hval
              simp only at hval
              have hpr := hprs c.i o2 _ q1 hvb
              rw [hval, q4, hkp] at hpr
              refine slAt_hit _ _ c.i (by rw [List.getElem?_take, if_pos hlt]; exact hpr) fun m y hm => ?_
              rw [List.getElem?_take] at hm
              split at hm
              · exact huniq m c.i c.t y _ hm hpr
              · cases hm
            have hinv1 : ∀ u, (matX (lsAt al j) (s.si σ)).st.sl u = slAt sl0 (((ops.toList.map (·.dst)).zip vsF).take i) u ∨ ∃ b ∈ al, b.t = u ∧ b.j ≠ j ∧ b.i < i ∧ ∀ x, wr[b.j]? = some x → i ≤ x := fun u => by
              rw [matX_st]
              rcases matS_hit (F := slAt sl0 (((ops.toList.map (·.dst)).zip vsF).take i)) (lsAt al j) (s.si σ).st.sl (s.si σ).nk hF u with h | ⟨h1, h2⟩
              · exact .inl h
              · rcases hinv u with h | ⟨c, hc, q1, q2, q3⟩
                · exact .inl (h1.trans h)
                · refine .inr ⟨c, hc, q1, fun e => ?_, q2, q3⟩
                  exact h2 c (by simp [lsAt, hc, e]) q1
            refine fin _ (ihl ks ⟨putD (matX (lsAt al j) s).sl op.dst v, o', nk'⟩ vs1 phs1 (pre ++ [(s.o, s.nk)]) (i + 1) (j + 1) hr hks2 hx1 (by simp [hp]) (by rw [hL]; simp) hk hvs2.symm fun u => ?_) ?_
            · rw [putY_st, hmx]
              show pt (matX (lsAt al j) (s.si σ)).st.sl op.dst (v.si σ) u = _ ∨ _
              rw [hsn]
              by_cases hd : op.dst = some u
              · exact .inl (hptd _ _ _ _ _ hd)
              · rcases hinv1 u with h | ⟨c, hc, h1, hne, h2, h3⟩
                · exact .inl (hpt _ _ _ _ _ h)
                · refine .inr ⟨c, hc, h1, by omega, fun x hx => ?_⟩
                  have := h3 x hx
                  have hne : x ≠ i := fun e => by
                    have h4 := fit.wk _ _ hx
                    rw [e, hki] at h4
                    simp only [Option.some.injEq, KdP.w.injEq] at h4
                    exact hne h4.symm
                  omega
            · have hm1 : matO (lsAt al j) (osi σ s.o.get, s.nk) = ((matX (lsAt al j) (s.si σ)).o.get, (matX (lsAt al j) (s.si σ)).nk) := by rw [← XS.si_o]; exact matO_matX (lsAt al j) (s.si σ)
              simp only [eOpP, phy, hLp, hLp1, hm1]
              have hsl : ∀ u ∈ op.looksAt ops, (matX (lsAt al j) (s.si σ)).st.sl u = slAt sl0 (((ops.toList.map (·.dst)).zip vsF).take i) u := fun u hu => by
                rcases hinv1 u with h | ⟨c, hc, h1, hne, h2, h3⟩
                · exact h
                · subst h1
                  have := hlook i op c hop hc hu h3
                  have h4 := fit.wk _ _ this
                  rw [hki] at h4
                  simp only [Option.some.injEq, KdP.w.injEq] at h4
                  exact absurd h4.symm hne
              have hgd : ∀ c, gdc ops (matX (lsAt al j) (s.si σ)).st op.guard c → gdc ops ⟨slAt sl0 (((ops.toList.map (·.dst)).zip vsF).take i), (matX (lsAt al j) (s.si σ)).o.get, (matX (lsAt al j) (s.si σ)).nk⟩ op.guard c := fun c hgc => by
                unfold gdc at hgc ⊢
                split at hgc
                · exact hgc
                · rename_i q want hg
                  have hgs : gsl ops (matX (lsAt al j) (s.si σ)).st q = gsl ops ⟨slAt sl0 (((ops.toList.map (·.dst)).zip vsF).take i), (matX (lsAt al j) (s.si σ)).o.get, (matX (lsAt al j) (s.si σ)).nk⟩ q := by
                    unfold gsl
                    split
                    · rename_i d hd
                      refine hsl d ?_
                      simp only [Oper.looksAt, List.mem_append, List.mem_filterMap]
                      right
                      rw [hg]
                      simp [hd]
                    · rfl
                  rw [← hgs]; exact hgc
              obtain ⟨b, v0, g1, g2, g3, g4⟩ := hG.w hx
              rw [hmx] at g1 g2
              refine ⟨b, v0, hgd _ g1, fun hb => ?_, fun hb => ?_, g4⟩
              · refine vOp_congr (s := (matX (lsAt al j) (s.si σ)).st) (fun x hx' => ?_) rfl rfl (g2 hb)
                cases x with
                | tmp t =>
                  refine hsl t ?_
                  simp only [Oper.looksAt, List.mem_append, List.mem_filterMap]
                  exact .inl ⟨.tmp t, by simpa using hx', rfl⟩
                | _ => rfl
              · obtain ⟨h5, h6⟩ := g3 hb
                rw [h5, h6]
                have e1 : osi σ (matX (lsAt al j) s).o.get = (matX (lsAt al j) (s.si σ)).o.get := by rw [← hmx]; exact (XS.si_o σ _).symm
                have e2 : (matX (lsAt al j) s).nk = (matX (lsAt al j) (s.si σ)).nk := by rw [← hmx]; rfl
                rw [e1, e2]
section
variable (Θ : Tab)
def yDrawP1 (G : Oper → XS → Option XR) (ops : Array Oper) (kd : List KdP) (wr : List Nat) (al : List Al) (s : XS) : Option XS :=
  bif flowOk ops && fitB Θ ops kd wr al then match clrA al s.sl with
    | sl0 => match yDrP G al ops.toList kd ⟨sl0, s.o, s.nk⟩ with
      | none => none
      | some (vs, phs, sl) => match (s.o, s.nk) :: phs with
        | L => bif yChkP G al L ops.toList kd vs sl0 0 then match L[wr.length]? with
            | none => none
            | some (o, nk) => bif Nat.beq wr.length phs.length then some ⟨sl, o, nk⟩ else none
          else none
  else none
def yDrawP (G : Oper → XS → Option XR) (ops : Array Oper) (s : XS) : Option XS :=
  match ops.toList with
  | l => match ancs l l.length with
    | an => match wrGo l 0 with
      | ws => match pendL l an ws with
        | pn => match ws.filter fun i => !pn.contains i with
          | wr => match mkAl Θ l an wr pn with
            | al => yDrawP1 Θ G ops (kdP an wr al l 0 0) wr al s
end
theorem yDrawP1_ok {P : Program} {Θ : Tab} {n k0 : Nat} {Q : Exit → St → Prop} (hΘ : TabOk P Θ) (hm : P.follows .mixedOrders = true) {id : Nat} {ops : Array Oper} {G : Oper → XS → Option XR} (hG : GOk P Θ σ ops G) {kd : List KdP} {wr : List Nat} {al : List Al} {s s' : XS} (hd : (ops.toList.all fun o => dstOk n o.dst) = true) (h : yDrawP1 Θ G ops kd wr al s = some s') (hQ : Q .normal (s'.si σ).st) :
    WP P n k0 (.region id ops true) (s.si σ).st Q := by
  unfold yDrawP1 at h
  cases hb : flowOk ops && fitB Θ ops kd wr al with
  | false => rw [hb] at h; cases h
  | true =>
    rw [hb] at h
    simp only [cond_true] at h
    simp only [Bool.and_eq_true] at hb
    have fit := fitB_ok hb.2
    have hgr : ∀ b ∈ al, D.grs b.l = true := fun b hb => by
      obtain ⟨o, e, i, _, _, _, _, h5, h6⟩ := fit.op b hb
      exact hΘ.gr e i b.l h5 h6
    split at h
    · cases h
    · rename_i vs phs sl hx
      cases hk : yChkP G al ((s.o, s.nk) :: phs) ops.toList kd vs (clrA al s.sl) 0 with
      | false => rw [hk] at h; cases h
      | true =>
        rw [hk] at h
        simp only [cond_true] at h
        split at h
        · cases h
        · rename_i o nk hL
          cases he : Nat.beq wr.length phs.length with
          | false => rw [he] at h; cases h
          | true =>
            rw [he] at h
            simp only [cond_true, Option.some.injEq] at h
            subst h
            have hlen := Nat.eq_of_beq_eq_true he
            obtain ⟨l1, l2⟩ := yDrP_len _ _ _ _ _ _ hx
            have hpl : ((patchV ((s.o, s.nk) :: phs) kd vs).map (SV.si σ)).length = ops.size := by rw [List.length_map, patch_len _ _ l2, fit.kl]
            obtain ⟨k1, k2⟩ := yDrP_ok (P := P) (σ := σ) (sl0 := ((XS.mk (clrA al s.sl) s.o s.nk).si σ).st.sl) hG hgr fit hb.1 hpl (by simp; omega) (fun i j k v h1 h2 => by
                rw [List.getElem?_map] at h2
                obtain ⟨v0, h3, rfl⟩ := Option.map_eq_some_iff.1 h2
                rw [patch_a _ _ _ _ _ _ h1 h3, List.nil_append]
                cases hj : ((s.o, s.nk) :: phs)[j]? <;> rfl) ops.toList kd ⟨clrA al s.sl, s.o, s.nk⟩ vs phs [] 0 0 rfl rfl hx rfl rfl hk rfl (fun u => .inl rfl)
            have hw : WP P n k0 (.region id ops true) ⟨((XS.mk (clrA al s.sl) s.o s.nk).si σ).st.sl, (phy σ ((s.o, s.nk) :: phs) 0).1, (phy σ ((s.o, s.nk) :: phs) 0).2⟩ Q := by
              refine WP.drawnP (P := P) (Θ := Θ) (n := n) (k0 := k0) (Q := Q) hΘ hm (id := id) (ops := ops) fit (phy σ ((s.o, s.nk) :: phs)) ((patchV ((s.o, s.nk) :: phs) kd vs).map (SV.si σ)) hd hb.1 hpl (fun b hb => by rw [slY]; simp only [clrA_al al s.sl b hb]; rfl) (fun i o v k ho hv hk => k1 i o v k (Nat.zero_le _) ho hv hk) ?_
              have e : slAt ((XS.mk (clrA al s.sl) s.o s.nk).si σ).st.sl ((ops.toList.map (·.dst)).zip ((patchV ((s.o, s.nk) :: phs) kd vs).map (SV.si σ))) = fun u => ((sl.get u).map (SV.si σ)).getD .any := funext fun u => (k2 u).symm
              rw [e, phy_st (σ := σ) (sl := sl) hL]
              exact hQ
            refine WP.of (fun E a w _ hr => ?_) hw
            obtain ⟨S, γ, hr⟩ := hr
            have ho : (phy σ ((s.o, s.nk) :: phs) 0).1 = (s.si σ).st.o := (si_sto s).symm
            refine ⟨S, γ, by rw [ho]; exact hr.sto, by rw [ho]; exact hr.tr, fun u => ?_, fun u => ?_, hr.df, hr.nn⟩
            · rw [ho, slY]
              have := hr.sl u
              rw [slY] at this
              rcases clrA_get al s.sl u with h | h
              · simp only [h]; exact this
              · simp only [h]; exact .any _
            · rw [slY]
              have := hr.slt u
              rw [slY] at this
              rcases clrA_get al s.sl u with h | h
              · simp only [h]; exact this
              · simp only [h]; trivial
theorem yDrawP_ok {P : Program} {Θ : Tab} {n k0 : Nat} {Q : Exit → St → Prop} (hΘ : TabOk P Θ) (hm : P.follows .mixedOrders = true) {id : Nat} {ops : Array Oper} {G : Oper → XS → Option XR} (hG : GOk P Θ σ ops G) {s s' : XS} (hd : (ops.toList.all fun o => dstOk n o.dst) = true) (h : yDrawP Θ G ops s = some s') (hQ : Q .normal (s'.si σ).st) :
    WP P n k0 (.region id ops true) (s.si σ).st Q := yDrawP1_ok hΘ hm hG hd h hQ
end Go.Proofs.Ytpkcbdhjnnnkbaa.Abs

namespace Go.Proofs.Ytpkcbdhjnnnkbaa.Abs
open Go
variable {σ : Nat → D}
def LW (P : Program) (c : Code) (Q : Exit → Act → World → Prop) (a : Act) (w : World) : Prop :=
  ∀ I : Act → World → Prop, (∀ a w, c.wp P (Exit.then I Q) a w → I a w) → I a w
theorem LW.fold {P : Program} {c : Code} {Q : Exit → Act → World → Prop} {a : Act} {w : World} (h : c.wp P (Exit.then (LW P c Q) Q) a w) : LW P c Q a w := fun I hI =>
  hI a w (Go.wp_mono h fun e a w q => by
    cases e with
    | normal => exact q I hI
    | _ => exact q)
theorem LW.wp {P : Program} {c : Code} {Q : Exit → Act → World → Prop} {a : Act} {w : World} (h : LW P c Q a w) : (Code.loop c).wp P Q a w := by
  have key := h (fun a w => ∀ (b : Frame) (k : List Item) (cs : List Frame), ∃ e a' w', Q e a' w' ∧ Arrives P (lone (b.at a (.code c :: .inLoop c :: k)) cs w) b k cs e a' w') (fun a w h b k cs => by
    obtain ⟨e, a₁, w₁, hq, harr⟩ := h b (.inLoop c :: k) cs
    cases e with
    | normal =>
      obtain ⟨e₂, a₂, w₂, hq₂, harr₂⟩ := hq b k cs
      exact ⟨e₂, a₂, w₂, hq₂, .of_steps (Steps.trans harr (.one step_inLoop)) harr₂⟩
    | exit id => exact ⟨_, a₁, w₁, hq, .pass (x := .inLoop c) rfl (fun _ _ => .inl (by simp)) harr⟩
    | goto l => exact ⟨_, a₁, w₁, hq, .pass (x := .inLoop c) rfl (fun _ _ => .inl (by simp)) harr⟩
    | ret => exact ⟨_, a₁, w₁, hq, .pass (x := .inLoop c) rfl (fun _ _ => .inl (by simp)) harr⟩
    | panic ch => exact ⟨_, a₁, w₁, hq, .pass (x := .inLoop c) rfl (fun _ _ => .inl (by simp)) harr⟩
    | outgrown => exact ⟨_, a₁, w₁, hq, .pass (x := .inLoop c) rfl (fun _ _ => .inl (by simp)) harr⟩)
  intro b k cs
  obtain ⟨e, a', w', hq, harr⟩ := key b k cs
  exact ⟨e, a', w', hq, .of_steps (.one step_loop) harr⟩
def nl : Code → Nat
  | .seq x y => nl x + nl y
  | .block _ c => nl c
  | .cond _ c d => nl c + nl d
  | .loop c => nl c + 1
  | .scope c => nl c
  | _ => 0
def rwp (P : Program) : Code → Nat → (Exit → Act → World → Prop) → Act → World → Prop
  | .seq x y, h, Q, a, w => if h ≤ nl x then rwp P x h (Exit.then (y.wp P Q) Q) a w else rwp P y (h - nl x) Q a w
  | .block id c, h, Q, a, w => rwp P c h (Exit.inBlock id Q) a w
  | .cond _ c d, h, Q, a, w => if h ≤ nl c then rwp P c h Q a w else rwp P d (h - nl c) Q a w
  | .loop c, h, Q, a, w => if h = 1 then LW P c Q a w else rwp P c (h - 1) (Exit.then (LW P c Q) Q) a w
  | .scope c, h, Q, a, w => rwp P c h (Exit.noGoto Q) a w
  | _, _, _, _, _ => False
inductive YE where
  | e (x : Exit)
  | hd (h : Nat)
def YE.up (k : Nat) : Option (YE × XS) → Option (YE × XS)
  | some (.hd h, s) => some (.hd (h + k), s)
  | r => r
structure YX where
  Θ : Tab
  tb : Nat → Option Func
  nat : Nat → List SV → Option D
  nofr : Nat → Bool
  pure : Nat → Bool
  DS : List Eqn
  KN : List (Nat × Bool)
def askCall (DS : List Eqn) (f : Nat) (asx : List SV) (o : TM AO) (nk : Nat) : Option XR :=
  ask (fun e => match e with
    | .call c => bif Nat.beq c.f f && (SV.eqbs c.args asx && c.hin.all fun p => match o.get p.1 with
        | some a => AO.eqb a p.2
        | none => false) then some (c.r.ren (nnk nk), setO2 o (hren nk c.hout), nk + c.k) else none
    | _ => none) DS
mutual
theorem ren_si (τ : Nat → Nat) : ∀ x : SV, (x.si σ).ren τ = (x.ren τ).si σ
  | .d x => by simp [SV.si, SV.ren]
  | .el x => by simp [SV.si, SV.ren]
  | .clo f a b => by simp [SV.si, SV.ren, rens_si τ a, rens_si τ b]
  | .tup xs => by simp [SV.si, SV.ren, rens_si τ xs]
  | .ag xs => by simp [SV.si, SV.ren, rens_si τ xs]
  | .dx z xs => by simp [SV.si, SV.ren]
  | .loc t f => by simp [SV.si, SV.ren]
  | .row t => by simp [SV.si, SV.ren]
  | .rel t j f => by simp [SV.si, SV.ren]
  | .raw t => by simp [SV.si, SV.ren]
  | .any => by simp [SV.si, SV.ren]
  | .view t l n c => by simp [SV.si, SV.ren]
theorem rens_si (τ : Nat → Nat) : ∀ xs : List SV, SV.rens τ (SV.sil σ xs) = SV.sil σ (SV.rens τ xs)
  | [] => by simp [SV.sil, SV.rens]
  | x :: r => by simp [SV.sil, SV.rens, ren_si τ x, rens_si τ r]
end
theorem AO.ren_si (τ : Nat → Nat) (x : AO) : (x.si σ).ren τ = (x.ren τ).si σ := by
  cases x with
  | box cs =>
    have h := rens_si (σ := σ) τ cs
    simp only [SV.sil_map] at h
    simp only [AO.si, AO.ren, h]
  | row e z xs => simp [AO.si, AO.ren]
  | raw ob => simp [AO.si, AO.ren]
theorem hren_lsi (nk : Nat) (l : List (Nat × Option AO)) : hren nk (lsi σ l) = lsi σ (hren nk l) := by
  simp only [hren, lsi, List.map_map]
  apply List.map_congr_left
  intro p _
  simp only [Function.comp, Prod.mk.injEq, true_and]
  cases p.2 with
  | none => rfl
  | some a => simp [AO.ren_si]
theorem askCall_ok {P : Program} {Θ : Tab} {DS : List Eqn} (hD : DSok P Θ σ DS) : YCall P σ (askCall DS) := by
  intro f asx o nk r o' nk' h
  obtain ⟨e, he, h1⟩ := ask_mem h
  split at h1
  · rename_i c
    rw [Bool.cond_eq_ite] at h1
    split at h1
    · rename_i hc
      simp only [Bool.and_eq_true] at hc
      simp only [Option.some.injEq, Prod.mk.injEq] at h1
      obtain ⟨rfl, rfl, rfl⟩ := h1
      have h2 := hD _ he
      have hf := Nat.eq_of_beq_eq_true hc.1
      have ha := SV.eqbs_ok hc.2.1
      have := h2 (osi σ o.get) nk (fun p hp => by
        have h3 := List.all_eq_true.1 hc.2.2 p hp
        split at h3
        · rename_i a hq
          rw [AO.eqb_ok h3] at hq
          simp [osi, hq]
        · cases h3)
      rw [hf, ha] at this
      refine this.mono ?_
      rintro r2 o2 n2 ⟨rfl, rfl, rfl⟩
      refine ⟨_root_.Go.Proofs.Ytpkcbdhjnnnkbaa.Abs.ren_si _ _, ?_, rfl⟩
      rw [setO2_get, osi_upds, hren_lsi]
    · cases h1
  · cases h1
def yDrawF (X : YX) (call : Nat → List SV → TM AO → Nat → Option XR) (ops : Array Oper) (s : XS) : Option XS :=
  match yG X.KN (yOp X.Θ X.DS X.KN call) ops with
  | G => match s.frzsY (preD X.nofr ops.toList s) with
    | s1 => match yDraw G ops s1 with
      | some s' => some s'
      | none => match yDraw G ops ((s1.frzsY (postD ops.toList s1)).soft) with
        | some s' => some s'
        | none => match yDrawP X.Θ G ops s1 with
          | some s' => some s'
          | none => yDrawP X.Θ G ops ((s1.frzsY (postD ops.toList s1)).soft)
def XS.tameY (Θ : Tab) (rs : List ResultVar) (s : XS) : XS :=
  match xRes Θ rs s with
  | some (vs, _) => (s.frzsY (rowsR vs)).dd
  | none => s
mutual
def yCall (X : YX) : Nat → Nat → List SV → TM AO → Nat → Option XR
  | 0, _, _, _, _ => none
  | m + 1, f, asx, o, nk => match askCall X.DS f asx o nk with
    | some r => some r
    | none => match X.nat f asx with
      | some d => some (.d d, o, nk)
      | none => bif X.pure f && dataL asx then (match yBody X m true f asx .e 0 with
          | some (r, _, _) => bif dataR r then some (r, o, nk) else none
          | none => none)
        else yBody X m false f asx o nk
def yBody (X : YX) : Nat → Bool → Nat → List SV → TM AO → Nat → Option XR
  | 0, _, _, _, _, _ => none
  | m + 1, fz, f, asx, o, nk => match X.tb f with
      | none => none
      | some fn => match fn.body with
        | none => none
        | some c => bif Nat.ble asx.length fn.ntmps then match yC X m (fun _ => false) 0 fn.ntmps c ⟨TM.ofList asx, o, nk⟩ with
            | none => none
            | some (x, s) => match (match x with
                | .e .normal => true
                | .e .ret => true
                | _ => false) with
              | false => none
              | true => match xRes X.Θ fn.results.toList (match fz with
                    | true => s.tameY X.Θ fn.results.toList
                    | false => s) with
                | some (vs, s') => some (tupOf vs, s'.o, s'.nk)
                | none => match s.frzsY (cellsR s fn.results.toList) with
                  | s1 => match xRes X.Θ fn.results.toList s1 with
                    | some (vs, s') => some (tupOf vs, s'.o, s'.nk)
                    | none => none
          else none
def yC (X : YX) : Nat → (Nat → Bool) → Nat → Nat → Code → XS → Option (YE × XS)
  | 0, _, _, _, _, _ => none
  | m + 1, st, b, n, c, s => match c with
    | .skip => some (.e .normal, s)
    | .ret => some (.e .ret, s)
    | .exit id => some (.e (.exit id), s)
    | .seq x y => match yC X m st b n x s with
      | none => none
      | some (e, s') => match e with
        | .e .normal => YE.up (nl x) (yC X m st (b + nl x) n y s')
        | e => some (e, s')
    | .block id c => match yC X m st b n c s with
      | none => none
      | some (e, s') => match e with
        | .e (.exit id') => bif Nat.beq id' id then some (.e .normal, s') else some (.e (.exit id'), s')
        | e => some (e, s')
    | .cond x c d => match yB X.KN (xev s x) with
      | some true => yC X m st b n c s
      | some false => YE.up (nl c) (yC X m st (b + nl c) n d s)
      | none => none
    | .loop c => bif st (b + 1) then some (.hd 1, s) else match yC X m st (b + 1) n c s with
      | none => none
      | some (e, s') => match e with
        | .e .normal => yC X m st b n (.loop c) s'
        | .hd h => some (.hd (h + 1), s')
        | e => some (e, s')
    | .scope c => match yC X m st b n c s with
      | none => none
      | some (e, s') => match e with
        | .e (.goto _) => none
        | e => some (e, s')
    | .region _ ops drawn => bif ops.toList.all fun o => dstOk n o.dst then match drawn with
        | false => match yOps X.KN (yOp X.Θ X.DS X.KN (yCall X m)) X.nofr ops ops.toList s with
          | some s' => some (.e .normal, s')
          | none => none
        | true => match yDrawF X (yCall X m) ops s with
          | some s' => some (.e .normal, s')
          | none => none
      else none
    | _ => none
end
def yR (X : YX) (m : Nat) (st : Nat → Bool) (n : Nat) : Code → Nat → Nat → XS → Option (YE × XS)
  | .seq x y, b, h, s => bif Nat.ble h (nl x) then (match yR X m st n x b h s with
      | none => none
      | some (e, s') => match e with
        | .e .normal => YE.up (nl x) (yC X m st (b + nl x) n y s')
        | e => some (e, s'))
    else YE.up (nl x) (yR X m st n y (b + nl x) (h - nl x) s)
  | .block id c, b, h, s => match yR X m st n c b h s with
      | none => none
      | some (e, s') => match e with
        | .e (.exit id') => bif Nat.beq id' id then some (.e .normal, s') else some (.e (.exit id'), s')
        | e => some (e, s')
  | .cond _ c d, b, h, s => bif Nat.ble h (nl c) then yR X m st n c b h s else YE.up (nl c) (yR X m st n d (b + nl c) (h - nl c) s)
  | .loop c, b, h, s => match (bif Nat.beq h 1 then yC X m st (b + 1) n c s else yR X m st n c (b + 1) (h - 1) s) with
      | none => none
      | some (e, s') => match e with
        | .e .normal => some (.hd 1, s')
        | .hd h' => some (.hd (h' + 1), s')
        | e => some (e, s')
  | .scope c, b, h, s => match yR X m st n c b h s with
      | none => none
      | some (e, s') => match e with
        | .e (.goto _) => none
        | e => some (e, s')
  | _, _, _, _ => none
end Go.Proofs.Ytpkcbdhjnnnkbaa.Abs

namespace Go.Proofs.Ytpkcbdhjnnnkbaa.Abs
open Go
variable {σ : Nat → D}
theorem dd_si (hl : Lf σ) (c : SV) : c.dd.si σ = (c.si σ).dd := by
  cases c with
  | dx z xs => simp [SV.dd, SV.si, D.si]
  | ag cs =>
    simp only [SV.dd, SV.si, SV.sil_map, allD_si]
    cases h : allD cs with
    | none => simp [SV.si, SV.sil_map]
    | some ds =>
      simp only [Option.map_some, leaf_all hl]
      split <;> simp [SV.si, SV.sil_map, D.si, D.sia_map]
  | _ => simp [SV.dd, SV.si]
theorem XS.dd_si (hl : Lf σ) (s : XS) : s.dd.si σ = (s.si σ).dd := by
  simp only [XS.dd, XS.si, TM.mapT_mapT, XS.mk.injEq, and_true]
  exact TM.mapT_congr (p := fun _ => true) (fun c _ => Abs.dd_si hl c) _ (TM.allT_true _)
theorem XS.tameY_ok (hl : Lf σ) {Θ : Tab} {rs : List ResultVar} {E : Ent} {s : XS} {a : Act} {w : World} (h : Rel E (s.si σ).st a w) : Rel E ((s.tameY Θ rs).si σ).st a w := by
  unfold XS.tameY
  split
  · rw [XS.dd_si hl]
    exact XS.dd_ok (XS.frzsY_ok _ h)
  · exact h
theorem xRes_si (hl : Lf σ) {Θ : Tab} : ∀ {rs : List ResultVar} {s s' : XS} {vs : List SV}, xRes Θ rs s = some (vs, s') → xRes Θ rs (s.si σ) = some (vs.map (SV.si σ), s'.si σ)
  | [], s, s', vs, h => by
    simp only [xRes, Option.some.injEq, Prod.mk.injEq] at h
    obtain ⟨rfl, rfl⟩ := h
    rfl
  | .tmp t :: r, s, s', vs, h => by
    simp only [xRes] at h ⊢
    split at h
    · cases h
    · rename_i vs1 s1 h1
      rw [xRes_si hl h1]
      have e : (s1.si σ).sl.get t = (s1.sl.get t).map (SV.si σ) := by simp [XS.si, TM.get_mapT]
      simp only [e]
      split at h
      · rename_i hg
        simp only [Option.some.injEq, Prod.mk.injEq] at h
        obtain ⟨rfl, rfl⟩ := h
        simp [hg, SV.si]
      · rename_i v hg
        simp only [Option.some.injEq, Prod.mk.injEq] at h
        obtain ⟨rfl, rfl⟩ := h
        simp [hg]
  | .cell a t :: r, s, s', vs, h => by
    simp only [xRes] at h ⊢
    split at h
    · cases h
    · rename_i vs1 s1 h1
      rw [xRes_si hl h1]
      have e : (s1.si σ).sl.get a = (s1.sl.get a).map (SV.si σ) := by simp [XS.si, TM.get_mapT]
      simp only [e]
      split at h
      · rename_i k f hg
        split at h
        · rename_i v hv
          simp only [Option.some.injEq, Prod.mk.injEq] at h
          obtain ⟨rfl, rfl⟩ := h
          have := xld_si hl hv
          simp only [SV.si] at this
          simp only [hg, Option.map_some, SV.si, XS.si_o, this, List.map_cons]
        · cases h
      · cases h
theorem tupOf_si (vs : List SV) : (tupOf vs).si σ = tupOf (vs.map (SV.si σ)) := by
  match vs with
  | [] => rfl
  | [v] => rfl
  | v :: w :: r => simp [tupOf, SV.si, SV.sil_map, SV.sil]
def Prem (P : Program) (σ : Nat → D) (c : Code) (E : Ent) (s' : XS) (x : YE) (Q : Exit → Act → World → Prop) : Prop :=
  ∀ a w, Rel E (s'.si σ).st a w → match x with
    | .e e => Q e a w
    | .hd h => rwp P c h Q a w
def HdIn (c : Code) : YE → Prop
  | .hd h => 1 ≤ h ∧ h ≤ nl c
  | _ => True
def Lands (P : Program) (σ : Nat → D) (n : Nat) (c : Code) (s : XS) (x : YE) (s' : XS) : Prop :=
  HdIn c x ∧ ∀ E a w Q, E.n = n → Rel E (s.si σ).st a w → Prem P σ c E s' x Q → c.wp P Q a w
structure YOk (P : Program) (σ : Nat → D) (X : YX) : Prop where
  hΘ : TabOk P X.Θ
  tb : ∀ f fn, X.tb f = some fn → P.funcs[f]? = some fn ∧ (fn.name == "runtime.NumGoroutine") = false
  nat : ∀ f asx d, X.nat f asx = some d → PSpec P f (asx.map (SV.si σ)) (.d (d.si σ))
  mix : P.follows .mixedOrders = true
  ds : DSok P X.Θ σ X.DS
  kn : KNok σ X.KN
  lf : Lf σ
theorem yDrawF_ok {P : Program} {X : YX} (hX : YOk P σ X) {call : Nat → List SV → TM AO → Nat → Option XR} {n : Nat} (hc : YCall P σ call) {id : Nat} {ops : Array Oper} {s s' : XS} (hd : (ops.toList.all fun o => dstOk n o.dst) = true)
    (h : yDrawF X call ops s = some s') : Lands P σ n (.region id ops true) s (.e .normal) s' := by
  have hF := yOp_ok (DS := X.DS) (KN := X.KN) hX.hΘ.gr hX.lf hX.ds hX.kn hc
  have hG := yG_ok hF ops
  have key : ∀ {s1 : XS}, yDraw (yG X.KN (yOp X.Θ X.DS X.KN call) ops) ops s1 = some s' → ∀ E a w Q, E.n = n → Rel E (s1.si σ).st a w → Prem P σ (.region id ops true) E s' (.e .normal) Q → (Code.region id ops true).wp P Q a w := by
    intro s1 h1 E a w Q he hr hp
    have := yDraw_ok (P := P) (n := n) (k0 := E.nk) (Q := fun e s2 => e = .normal ∧ s2 = (s'.si σ).st) (id := id) hX.hΘ hX.mix hG hd h1 ⟨rfl, rfl⟩ E a w he rfl hr
    exact Go.wp_mono this (by rintro e a' w' ⟨s2, h2, rfl, rfl⟩; exact hp a' w' h2)
  have keyP : ∀ {s1 : XS}, yDrawP X.Θ (yG X.KN (yOp X.Θ X.DS X.KN call) ops) ops s1 = some s' → ∀ E a w Q, E.n = n → Rel E (s1.si σ).st a w → Prem P σ (.region id ops true) E s' (.e .normal) Q → (Code.region id ops true).wp P Q a w := by
    intro s1 h1 E a w Q he hr hp
    have := yDrawP_ok (P := P) (n := n) (k0 := E.nk) (Q := fun e s2 => e = .normal ∧ s2 = (s'.si σ).st) (id := id) hX.hΘ hX.mix hG hd h1 ⟨rfl, rfl⟩ E a w he rfl hr
    exact Go.wp_mono this (by rintro e a' w' ⟨s2, h2, rfl, rfl⟩; exact hp a' w' h2)
  refine ⟨trivial, fun E a w Q he hr hp => ?_⟩
  unfold yDrawF at h
  simp only at h
  have hr1 := XS.frzsY_ok (preD X.nofr ops.toList s) hr
  split at h
  · rename_i s2 h2
    simp only [Option.some.injEq] at h
    subst h
    exact key h2 E a w Q he hr1 hp
  · split at h
    · rename_i s2 h2
      simp only [Option.some.injEq] at h
      subst h
      exact key h2 E a w Q he (XS.softY_ok (XS.frzsY_ok _ hr1)) hp
    · split at h
      · rename_i s2 h2
        simp only [Option.some.injEq] at h
        subst h
        exact keyP h2 E a w Q he hr1 hp
      · exact keyP h E a w Q he (XS.softY_ok (XS.frzsY_ok _ hr1)) hp
theorem condY {E : Ent} {s : XS} {a : Act} {w : World} {KN : List (Nat × Bool)} (hN : KNok σ KN) {x : Operand} {b : Bool} (hr : Rel E (s.si σ).st a w) (h : yB KN (xev s x) = some b) : a.eval x = .bool b := by
  refine cond_bool hr ?_
  rw [xev_si]
  exact yB_ok hN h
theorem up_some {k : Nat} {r : Option (YE × XS)} {x : YE} {s : XS} (h : YE.up k r = some (x, s)) : (∃ e, x = .e e ∧ r = some (.e e, s)) ∨ ∃ h', x = .hd (h' + k) ∧ r = some (.hd h', s) := by
  cases r with
  | none => simp [YE.up] at h
  | some p =>
    obtain ⟨y, t⟩ := p
    cases y with
    | e e => simp only [YE.up, Option.some.injEq, Prod.mk.injEq] at h; obtain ⟨rfl, rfl⟩ := h; exact .inl ⟨e, rfl, rfl⟩
    | hd h' => simp only [YE.up, Option.some.injEq, Prod.mk.injEq] at h; obtain ⟨rfl, rfl⟩ := h; exact .inr ⟨h', rfl, rfl⟩
theorem Lands.loop {P : Program} {n : Nat} {c : Code} {s s' : XS} {x : YE} (h : Lands P σ n (.loop c) s x s') : Lands P σ n (.loop c) s x s' := h
def LandsL (P : Program) (σ : Nat → D) (n : Nat) (c : Code) (s : XS) (x : YE) (s' : XS) : Prop :=
  HdIn (.loop c) x ∧ ∀ E a w Q, E.n = n → Rel E (s.si σ).st a w → Prem P σ (.loop c) E s' x Q → LW P c Q a w
theorem dataL_si : ∀ {xs : List SV}, dataL xs = true → dataL (xs.map (SV.si σ)) = true
  | [], _ => rfl
  | c :: r, h => by
    cases c <;> simp only [dataL, Bool.false_eq_true] at h
    exact dataL_si (xs := r) h
theorem yC_ok {P : Program} {X : YX} (hX : YOk P σ X) : ∀ m, (∀ st b n c s x s', yC X m st b n c s = some (x, s') → Lands P σ n c s x s') ∧ (∀ st b n c s x s', yC X m st b n (.loop c) s = some (x, s') → LandsL P σ n c s x s') ∧ YCall P σ (yCall X m) ∧ ∀ fz, YCall P σ (yBody X m fz) := by
  intro m
  induction m with
  | zero => exact ⟨fun st b n c s x s' h => by simp [yC] at h, fun st b n c s x s' h => by simp [yC] at h, fun f asx o nk r o' nk' h => by simp [yCall] at h, fun fz f asx o nk r o' nk' h => by simp [yBody] at h⟩
  | succ m ih =>
    obtain ⟨ihC, ihL, ihF, ihB⟩ := ih
    have hloop : ∀ st b n c s x s', yC X (m + 1) st b n (.loop c) s = some (x, s') → LandsL P σ n c s x s' := by
      intro st b n c s x s' h
      simp only [yC] at h
      cases hst : st (b + 1) with
      | true =>
        rw [hst] at h
        simp only [cond_true, Option.some.injEq, Prod.mk.injEq] at h
        obtain ⟨rfl, rfl⟩ := h
        refine ⟨⟨Nat.le_refl _, by simp [nl]⟩, fun E a w Q he hr hp => ?_⟩
        have := hp a w hr
        simp only [rwp, if_true] at this
        exact this
      | false =>
        rw [hst] at h
        simp only [cond_false] at h
        cases hb : yC X m st (b + 1) n c s with
        | none => rw [hb] at h; cases h
        | some p =>
          obtain ⟨e1, s1⟩ := p
          rw [hb] at h
          obtain ⟨hd1, h1⟩ := ihC _ _ _ _ _ _ _ hb
          cases e1 with
          | hd h' =>
            simp only [Option.some.injEq, Prod.mk.injEq] at h
            obtain ⟨rfl, rfl⟩ := h
            refine ⟨⟨by omega, by simp only [nl]; have := hd1.2; omega⟩, fun E a w Q he hr hp => LW.fold (h1 E a w _ he hr fun a2 w2 hr2 => ?_)⟩
            have := hp a2 w2 hr2
            simp only [rwp] at this
            rw [if_neg (by have := hd1.1; omega)] at this
            exact this
          | e e1 =>
            cases e1 with
            | normal =>
              obtain ⟨hd2, h2⟩ := ihL _ _ _ _ _ _ _ h
              exact ⟨hd2, fun E a w Q he hr hp => LW.fold (h1 E a w _ he hr fun a2 w2 hr2 => h2 E a2 w2 Q he hr2 hp)⟩
            | _ =>
              simp only [Option.some.injEq, Prod.mk.injEq] at h
              obtain ⟨rfl, rfl⟩ := h
              exact ⟨trivial, fun E a w Q he hr hp => LW.fold (h1 E a w _ he hr fun a2 w2 hr2 => hp a2 w2 hr2)⟩
    refine ⟨?_, hloop, ?_, ?_⟩
    · intro st b n c s x s' h
      cases c with
      | skip =>
        simp only [yC, Option.some.injEq, Prod.mk.injEq] at h
        obtain ⟨rfl, rfl⟩ := h
        exact ⟨trivial, fun E a w Q he hr hp => wp_skip (hp a w hr)⟩
      | ret =>
        simp only [yC, Option.some.injEq, Prod.mk.injEq] at h
        obtain ⟨rfl, rfl⟩ := h
        exact ⟨trivial, fun E a w Q he hr hp => wp_ret (hp a w hr)⟩
      | exit id =>
        simp only [yC, Option.some.injEq, Prod.mk.injEq] at h
        obtain ⟨rfl, rfl⟩ := h
        exact ⟨trivial, fun E a w Q he hr hp => wp_exit (hp a w hr)⟩
      | seq x0 y =>
        simp only [yC] at h
        cases hb : yC X m st b n x0 s with
        | none => rw [hb] at h; cases h
        | some p =>
          obtain ⟨e1, s1⟩ := p
          rw [hb] at h
          obtain ⟨hd1, h1⟩ := ihC _ _ _ _ _ _ _ hb
          cases e1 with
          | hd h' =>
            simp only [Option.some.injEq, Prod.mk.injEq] at h
            obtain ⟨rfl, rfl⟩ := h
            refine ⟨⟨hd1.1, by simp only [nl]; have := hd1.2; omega⟩, fun E a w Q he hr hp => wp_seq (h1 E a w _ he hr fun a2 w2 hr2 => ?_)⟩
            have := hp a2 w2 hr2
            simp only [rwp] at this
            rw [if_pos hd1.2] at this
            exact this
          | e e1 =>
            cases e1 with
            | normal =>
              rcases up_some h with ⟨e2, rfl, h3⟩ | ⟨h', rfl, h3⟩
              · obtain ⟨_, h2⟩ := ihC _ _ _ _ _ _ _ h3
                exact ⟨trivial, fun E a w Q he hr hp => wp_seq (h1 E a w _ he hr fun a2 w2 hr2 => h2 E a2 w2 Q he hr2 hp)⟩
              · obtain ⟨hd2, h2⟩ := ihC _ _ _ _ _ _ _ h3
                refine ⟨⟨by have := hd2.1; omega, by simp only [nl]; have := hd2.2; omega⟩, fun E a w Q he hr hp => wp_seq (h1 E a w _ he hr fun a2 w2 hr2 => h2 E a2 w2 Q he hr2 fun a3 w3 hr3 => ?_)⟩
                have := hp a3 w3 hr3
                simp only [rwp] at this
                rw [if_neg (by have := hd2.1; omega), Nat.add_sub_cancel] at this
                exact this
            | _ =>
              simp only [Option.some.injEq, Prod.mk.injEq] at h
              obtain ⟨rfl, rfl⟩ := h
              exact ⟨trivial, fun E a w Q he hr hp => wp_seq (h1 E a w _ he hr fun a2 w2 hr2 => hp a2 w2 hr2)⟩
      | block id c =>
        simp only [yC] at h
        cases hb : yC X m st b n c s with
        | none => rw [hb] at h; cases h
        | some p =>
          obtain ⟨e1, s1⟩ := p
          rw [hb] at h
          obtain ⟨hd1, h1⟩ := ihC _ _ _ _ _ _ _ hb
          cases e1 with
          | hd h' =>
            simp only [Option.some.injEq, Prod.mk.injEq] at h
            obtain ⟨rfl, rfl⟩ := h
            exact ⟨hd1, fun E a w Q he hr hp => wp_block (h1 E a w _ he hr fun a2 w2 hr2 => hp a2 w2 hr2)⟩
          | e e1 =>
            cases e1 with
            | exit id' =>
              simp only [TM.beq_cond] at h
              by_cases hid : id' = id
              · rw [if_pos hid] at h
                simp only [Option.some.injEq, Prod.mk.injEq] at h
                obtain ⟨rfl, rfl⟩ := h
                refine ⟨trivial, fun E a w Q he hr hp => wp_block (h1 E a w _ he hr fun a2 w2 hr2 => ?_)⟩
                show if id' = id then _ else _
                rw [if_pos hid]; exact hp a2 w2 hr2
              · rw [if_neg hid] at h
                simp only [Option.some.injEq, Prod.mk.injEq] at h
                obtain ⟨rfl, rfl⟩ := h
                refine ⟨trivial, fun E a w Q he hr hp => wp_block (h1 E a w _ he hr fun a2 w2 hr2 => ?_)⟩
                show if id' = id then _ else _
                rw [if_neg hid]; exact hp a2 w2 hr2
            | _ =>
              simp only [Option.some.injEq, Prod.mk.injEq] at h
              obtain ⟨rfl, rfl⟩ := h
              exact ⟨trivial, fun E a w Q he hr hp => wp_block (h1 E a w _ he hr fun a2 w2 hr2 => hp a2 w2 hr2)⟩
      | cond y c d =>
        simp only [yC] at h
        split at h
        · rename_i hx
          obtain ⟨hd1, h1⟩ := ihC _ _ _ _ _ _ _ h
          refine ⟨?_, fun E a w Q he hr hp => wp_cond_true (condY hX.kn hr hx) (h1 E a w Q he hr fun a2 w2 hr2 => ?_)⟩
          · cases x with
            | e => trivial
            | hd h' => exact ⟨hd1.1, by simp only [nl]; have := hd1.2; omega⟩
          · have := hp a2 w2 hr2
            cases x with
            | e => exact this
            | hd h' => simp only [rwp] at this; rw [if_pos hd1.2] at this; exact this
        · rename_i hx
          rcases up_some h with ⟨e2, rfl, h3⟩ | ⟨h', rfl, h3⟩
          · obtain ⟨_, h1⟩ := ihC _ _ _ _ _ _ _ h3
            exact ⟨trivial, fun E a w Q he hr hp => wp_cond_false (condY hX.kn hr hx) (h1 E a w Q he hr hp)⟩
          · obtain ⟨hd1, h1⟩ := ihC _ _ _ _ _ _ _ h3
            refine ⟨⟨by have := hd1.1; omega, by simp only [nl]; have := hd1.2; omega⟩, fun E a w Q he hr hp => wp_cond_false (condY hX.kn hr hx) (h1 E a w Q he hr fun a2 w2 hr2 => ?_)⟩
            have := hp a2 w2 hr2
            simp only [rwp] at this
            rw [if_neg (by have := hd1.1; omega), Nat.add_sub_cancel] at this
            exact this
        · cases h
      | loop c =>
        obtain ⟨h1, h2⟩ := hloop _ _ _ _ _ _ _ h
        exact ⟨h1, fun E a w Q he hr hp => (h2 E a w Q he hr hp).wp⟩
      | scope c =>
        simp only [yC] at h
        cases hb : yC X m st b n c s with
        | none => rw [hb] at h; cases h
        | some p =>
          obtain ⟨e1, s1⟩ := p
          rw [hb] at h
          obtain ⟨hd1, h1⟩ := ihC _ _ _ _ _ _ _ hb
          cases e1 with
          | hd h' =>
            simp only [Option.some.injEq, Prod.mk.injEq] at h
            obtain ⟨rfl, rfl⟩ := h
            exact ⟨hd1, fun E a w Q he hr hp => wp_scope_straight (h1 E a w _ he hr fun a2 w2 hr2 => hp a2 w2 hr2)⟩
          | e e1 =>
            cases e1 <;> first | (cases h; done) | (simp only [Option.some.injEq, Prod.mk.injEq] at h; obtain ⟨rfl, rfl⟩ := h; exact ⟨trivial, fun E a w Q he hr hp => wp_scope_straight (h1 E a w _ he hr fun a2 w2 hr2 => hp a2 w2 hr2)⟩)
      | region id ops drawn =>
        unfold yC at h
        simp only at h
        cases hd : (ops.toList.all fun o => dstOk n o.dst) with
        | false => rw [hd] at h; cases h
        | true =>
          rw [hd] at h
          simp only [cond_true] at h
          cases drawn with
          | false =>
            simp only at h
            split at h
            · rename_i s1 hs1
              simp only [Option.some.injEq, Prod.mk.injEq] at h
              obtain ⟨rfl, rfl⟩ := h
              refine ⟨trivial, fun E a w Q he hr hp => wp_region_list ?_⟩
              exact yOps_ok hX.hΘ (yOp_ok hX.hΘ.gr hX.lf hX.ds hX.kn ihF) (fun a w hr => hp a w hr) _ _ a w (by rw [he]; exact hd) hr hs1
            · cases h
          | true =>
            simp only at h
            split at h
            · rename_i s1 hs1
              simp only [Option.some.injEq, Prod.mk.injEq] at h
              obtain ⟨rfl, rfl⟩ := h
              exact yDrawF_ok hX ihF hd hs1
            · cases h
      | _ => simp [yC] at h
    · intro f asx o nk r o' nk' h
      simp only [yCall] at h
      split at h
      · rename_i r0 hd
        simp only [Option.some.injEq] at h
        subst h
        exact askCall_ok hX.ds f asx o nk r o' nk' hd
      split at h
      · rename_i d hd
        simp only [Option.some.injEq, Prod.mk.injEq] at h
        obtain ⟨rfl, rfl, rfl⟩ := h
        exact hX.nat f asx d hd (osi σ o.get) nk
      · cases hp : (X.pure f && dataL asx) with
        | false =>
          rw [hp] at h
          exact ihB false f asx o nk r o' nk' h
        | true =>
          rw [hp] at h
          simp only [cond_true] at h
          simp only [Bool.and_eq_true] at hp
          cases hb : yBody X m true f asx .e 0 with
          | none => rw [hb] at h; cases h
          | some q =>
            obtain ⟨r1, o1, k1⟩ := q
            rw [hb] at h
            simp only at h
            cases hd : dataR r1 with
            | false => rw [hd] at h; cases h
            | true =>
              rw [hd] at h
              simp only [cond_true, Option.some.injEq, Prod.mk.injEq] at h
              obtain ⟨rfl, rfl, rfl⟩ := h
              have hs := ihB true f asx .e 0 _ _ _ hb
              have he : osi σ (TM.e : TM AO).get = fun _ => none := by funext u; rfl
              rw [he] at hs
              have hda := dataL_si (σ := σ) hp.2
              have hdr : dataR (r1.si σ) = true := by
                cases r1 <;> simp only [dataR, Bool.false_eq_true] at hd
                · rfl
                · simp only [SV.si, SV.sil_map, dataR]
                  exact dataL_si hd
              exact Spec.closeR hda hdr (hs.mono fun r2 o2 n2 h => h.1) (osi σ o.get) nk
    · intro fz f asx o nk r o' nk' h
      simp only [yBody] at h
      split at h
      · cases h
      · rename_i fn hfn
        split at h
        · cases h
        · rename_i c hbody
          cases hle : Nat.ble asx.length fn.ntmps with
          | false => rw [hle] at h; cases h
          | true =>
            rw [hle] at h
            simp only [cond_true] at h
            split at h
            · cases h
            · rename_i x s1 hrun
              obtain ⟨hdx, hrun⟩ := ihC _ _ _ _ _ _ _ hrun
              split at h
              · cases h
              · rename_i he
                have he : ∃ e, x = .e e ∧ (e = .normal ∨ e = .ret) := by
                  cases x with
                  | hd => simp at he
                  | e e => exact ⟨e, rfl, by cases e <;> simp_all⟩
                obtain ⟨e, rfl, he2⟩ := he
                obtain ⟨k1, k2⟩ := hX.tb f fn hfn
                refine Spec.of_bodyC hX.hΘ (rs := fn.results.toList) (c := c) (n := fn.ntmps) ⟨fn, k1, hbody, k2, rfl, rfl⟩ (by rw [List.length_map]; exact Nat.le_of_ble_eq_true hle) ?_
                have e0 : ({ sl := slots (asx.map (SV.si σ)), o := osi σ o.get, nk := nk } : St) = ((XS.mk (TM.ofList asx) o nk).si σ).st := by
                  have h1 := of_list_st asx o nk
                  simp only [XS.st, St.mk.injEq, and_true] at h1
                  simp only [XS.st, St.mk.injEq, and_true, mapT_get, XS.si, TM.get_mapT]
                  funext u
                  rw [TM.get_ofList]
                  simp only [slots, List.getD_eq_getElem?_getD, List.getElem?_map]
                rw [e0]
                intro E a w hn _ hr
                refine hrun E a w _ hn hr fun a2 w2 h2 => ?_
                split at h
                · rename_i vs s2 hres
                  simp only [Option.some.injEq, Prod.mk.injEq] at h
                  obtain ⟨rfl, rfl, rfl⟩ := h
                  have hres2 := xRes_si hX.lf hres
                  have hfin : ∃ s3, Rel E s3 a2 w2 ∧ retC X.Θ fn.results.toList (fun r2 o2 n2 => r2 = tupOf (vs.map (SV.si σ)) ∧ o2 = (s2.si σ).o.get ∧ n2 = (s2.si σ).nk) e s3 := by
                    cases fz with
                    | true => exact ret_res (P := P) he2 hres2 (XS.tameY_ok hX.lf h2)
                    | false => exact ret_res (P := P) he2 hres2 h2
                  rw [tupOf_si, ← XS.si_o]
                  exact hfin
                · split at h
                  · rename_i vs s2 hres
                    simp only [Option.some.injEq, Prod.mk.injEq] at h
                    obtain ⟨rfl, rfl, rfl⟩ := h
                    have hres2 := xRes_si hX.lf hres
                    rw [tupOf_si, ← XS.si_o]
                    exact ret_res (P := P) he2 hres2 (XS.frzsY_ok _ h2)
                  · cases h
end Go.Proofs.Ytpkcbdhjnnnkbaa.Abs

namespace Go.Proofs.Ytpkcbdhjnnnkbaa.Abs
open Go
theorem els_si {σ : Nat → D} (x : D) : D.sis σ x.els = (x.si σ).els := by
  cases x <;> simp [D.els, D.si, D.sis]
theorem sis_cons {σ : Nat → D} {x : D} (h : notSeg x = true) (r : List D) : D.sis σ (x :: r) = x.si σ :: D.sis σ r := by
  cases x <;> simp_all [D.sis, notSeg]
def NSg (δ : Nat → D) : Prop := ∀ n, notSeg (δ n) = true
theorem si_ns {δ : Nat → D} (hd : NSg δ) {x : D} (h : notSeg x = true) : notSeg (x.si δ) = true := by
  cases x <;> simp_all [D.si, notSeg, NSg]
section
variable {δ σ : Nat → D} (hd : NSg δ)
include hd
mutual
theorem D.si_si : ∀ x : D, (x.si δ).si σ = x.si fun n => (δ n).si σ
  | .v n => by simp [D.si]
  | .sl z xs => by simp [D.si, (D.sis_sis xs).1]
  | .agg xs => by simp [D.si, (D.sis_sis xs).2]
  | .int k n => by simp [D.si]
  | .bool b => by simp [D.si]
  | .str s => by simp [D.si]
  | .nilp => by simp [D.si]
  | .nil => by simp [D.si]
  | .nilk k => by simp [D.si]
  | .seg n => by simp [D.si]
theorem D.sis_sis : ∀ xs : List D, D.sis σ (D.sis δ xs) = D.sis (fun n => (δ n).si σ) xs ∧ D.sia σ (D.sia δ xs) = D.sia (fun n => (δ n).si σ) xs
  | [] => by simp [D.sis, D.sia]
  | x :: r => by
    have h1 := D.si_si x
    have h2 := D.sis_sis r
    refine ⟨?_, by simp [D.sia, h1, h2.2]⟩
    cases hx : notSeg x with
    | true => rw [sis_cons hx, sis_cons hx, sis_cons (si_ns hd hx), h1, h2.1]
    | false =>
      cases x <;> simp only [notSeg, Bool.true_eq_false] at hx
      simp [D.sis, D.sis_app, els_si, h2.1]
end
mutual
theorem SV.si_si : ∀ x : SV, (x.si δ).si σ = x.si fun n => (δ n).si σ
  | .d x => by simp [SV.si, D.si_si hd]
  | .el x => by simp [SV.si, D.si_si hd]
  | .clo f a b => by simp [SV.si, SV.sil_sil a, SV.sil_sil b]
  | .tup xs => by simp [SV.si, SV.sil_sil xs]
  | .ag xs => by simp [SV.si, SV.sil_sil xs]
  | .dx z xs => by simp [SV.si, (D.sis_sis hd xs).1]
  | .loc t f => by simp [SV.si]
  | .row t => by simp [SV.si]
  | .rel t j f => by simp [SV.si]
  | .raw t => by simp [SV.si]
  | .any => by simp [SV.si]
  | .view t l n c => by simp [SV.si]
theorem SV.sil_sil : ∀ xs : List SV, SV.sil σ (SV.sil δ xs) = SV.sil (fun n => (δ n).si σ) xs
  | [] => by simp [SV.sil]
  | x :: r => by simp [SV.sil, SV.si_si x, SV.sil_sil r]
end
theorem AO.si_si (x : AO) : (x.si δ).si σ = x.si fun n => (δ n).si σ := by
  cases x with
  | box cs => simp only [AO.si, List.map_map, AO.box.injEq]; exact List.map_congr_left fun c _ => SV.si_si hd c
  | row e z xs => simp only [AO.si, (D.sis_sis hd xs).1]
  | raw ob =>
    cases ob with
    | ob o => rfl
    | map kvs => simp only [AO.si, RO.si, List.map_map, AO.raw.injEq, RO.map.injEq]; exact List.map_congr_left fun p _ => by simp [D.si_si hd]
theorem XS.si_si (s : XS) : (s.si δ).si σ = s.si fun n => (δ n).si σ := by
  simp only [XS.si, TM.mapT_mapT, XS.mk.injEq, and_true]
  exact ⟨TM.mapT_congr (p := fun _ => true) (fun c _ => SV.si_si hd c) _ (TM.allT_true _), TM.mapT_congr (p := fun _ => true) (fun c _ => AO.si_si hd c) _ (TM.allT_true _)⟩
end
def dv (l : List D) : Nat → D := fun n => match l[n]? with
  | some x => x
  | none => .nil
theorem dv_si {σ : Nat → D} (l : List D) : (fun n => (dv l n).si σ) = dv (l.map (D.si σ)) := by
  funext n
  simp only [dv, List.getElem?_map]
  cases l[n]? <;> simp [D.si]
def plainB (l : List D) : Bool := l.all fun x => x.leaf && notSeg x
theorem dv_lf {l : List D} (h : plainB l = true) : Lf (dv l) := fun n => by
  simp only [dv]
  cases hn : l[n]? with
  | none => rfl
  | some x =>
    have := List.all_eq_true.1 h x (List.mem_of_getElem? hn)
    simp at this; exact this.1
theorem dv_ns {l : List D} (h : plainB l = true) : NSg (dv l) := fun n => by
  simp only [dv]
  cases hn : l[n]? with
  | none => rfl
  | some x =>
    have := List.all_eq_true.1 h x (List.mem_of_getElem? hn)
    simp at this; exact this.2
theorem plain_si {σ : List D} (hs : plainB σ = true) {l : List D} (h : plainB l = true) : plainB (l.map (D.si (dv σ))) = true := by
  simp only [plainB, List.all_map, List.all_eq_true, Bool.and_eq_true] at h ⊢
  intro x hx
  have := h x hx
  simp only [Function.comp, Bool.and_eq_true]
  exact ⟨(D.si_leaf (dv_lf hs) x).trans this.1, si_ns (dv_ns hs) this.2⟩
mutual
def D.sc (k : Nat) : D → Bool
  | .v n => Nat.blt n k
  | .seg n => Nat.blt n k
  | .sl _ xs => D.scs k xs
  | .agg xs => D.scs k xs
  | .int _ _ => true
  | .bool _ => true
  | .str _ => true
  | .nilp => true
  | .nil => true
  | .nilk _ => true
def D.scs (k : Nat) : List D → Bool
  | [] => true
  | x :: r => D.sc k x && D.scs k r
end
theorem blt_iff {a b : Nat} : Nat.blt a b = true ↔ a < b := by simp [Nat.blt]; omega
section
variable {σ σ' : Nat → D} {k : Nat} (ha : ∀ n, n < k → σ n = σ' n)
include ha
mutual
theorem D.sc_si : ∀ x : D, x.sc k = true → x.si σ = x.si σ'
  | .v n, h => by simp only [D.sc] at h; simp only [D.si]; exact ha n (blt_iff.1 h)
  | .sl z xs, h => by simp only [D.sc] at h; simp only [D.si, (D.scs_si xs h).1]
  | .agg xs, h => by simp only [D.sc] at h; simp only [D.si, (D.scs_si xs h).2]
  | .int _ _, _ => rfl
  | .bool _, _ => rfl
  | .str _, _ => rfl
  | .nilp, _ => rfl
  | .nil, _ => rfl
  | .nilk _, _ => rfl
  | .seg _, _ => rfl
theorem D.scs_si : ∀ xs : List D, D.scs k xs = true → D.sis σ xs = D.sis σ' xs ∧ D.sia σ xs = D.sia σ' xs
  | [], _ => ⟨rfl, rfl⟩
  | x :: r, h => by
    simp only [D.scs, Bool.and_eq_true] at h
    have h1 := D.sc_si x h.1
    have h2 := D.scs_si r h.2
    refine ⟨?_, by simp [D.sia, h1, h2.2]⟩
    cases hx : notSeg x with
    | true => rw [sis_cons hx, sis_cons hx, h1, h2.1]
    | false =>
      cases x <;> simp only [notSeg, Bool.true_eq_false] at hx
      rename_i n
      have := h.1
      simp only [D.sc] at this
      simp [D.sis, h2.1, ha n (blt_iff.1 this)]
end
end
mutual
def SV.sc (k : Nat) : SV → Bool
  | .d x => x.sc k
  | .el x => x.sc k
  | .clo _ a b => SV.scl k a && SV.scl k b
  | .tup xs => SV.scl k xs
  | .ag xs => SV.scl k xs
  | .dx _ xs => D.scs k xs
  | .loc _ _ => true
  | .row _ => true
  | .rel _ _ _ => true
  | .raw _ => true
  | .any => true
  | .view _ _ _ _ => true
def SV.scl (k : Nat) : List SV → Bool
  | [] => true
  | x :: r => SV.sc k x && SV.scl k r
end
def AO.sc (k : Nat) : AO → Bool
  | .box cs => SV.scl k cs
  | .row _ _ xs => D.scs k xs
  | .raw (.ob _) => true
  | .raw (.map kvs) => kvs.all fun p => p.1.sc k && p.2.sc k
section
variable {σ σ' : Nat → D} {k : Nat} (ha : ∀ n, n < k → σ n = σ' n)
include ha
mutual
theorem SV.sc_si : ∀ x : SV, x.sc k = true → x.si σ = x.si σ'
  | .d x, h => by simp only [SV.sc] at h; simp only [SV.si, D.sc_si ha x h]
  | .el x, h => by simp only [SV.sc] at h; simp only [SV.si, D.sc_si ha x h]
  | .clo f a b, h => by simp only [SV.sc, Bool.and_eq_true] at h; simp only [SV.si, SV.scl_si a h.1, SV.scl_si b h.2]
  | .tup xs, h => by simp only [SV.sc] at h; simp only [SV.si, SV.scl_si xs h]
  | .ag xs, h => by simp only [SV.sc] at h; simp only [SV.si, SV.scl_si xs h]
  | .dx z xs, h => by simp only [SV.sc] at h; simp only [SV.si, (D.scs_si ha xs h).1]
  | .loc _ _, _ => rfl
  | .row _, _ => rfl
  | .rel _ _ _, _ => rfl
  | .raw _, _ => rfl
  | .any, _ => rfl
  | .view _ _ _ _, _ => rfl
theorem SV.scl_si : ∀ xs : List SV, SV.scl k xs = true → SV.sil σ xs = SV.sil σ' xs
  | [], _ => rfl
  | x :: r, h => by
    simp only [SV.scl, Bool.and_eq_true] at h
    simp only [SV.sil, SV.sc_si x h.1, SV.scl_si r h.2]
end
theorem AO.sc_si (x : AO) (h : x.sc k = true) : x.si σ = x.si σ' := by
  cases x with
  | box cs => simp only [AO.sc] at h; simp only [AO.si, ← SV.sil_map, SV.scl_si ha cs h]
  | row e z xs => simp only [AO.sc] at h; simp only [AO.si, (D.scs_si ha xs h).1]
  | raw ob =>
    cases ob with
    | ob o => rfl
    | map kvs =>
      simp only [AO.sc, List.all_eq_true, Bool.and_eq_true] at h
      simp only [AO.si, RO.si, AO.raw.injEq, RO.map.injEq]
      exact List.map_congr_left fun p hp => by rw [D.sc_si ha _ (h p hp).1, D.sc_si ha _ (h p hp).2]
end
def scO (k : Nat) : Option D → Bool
  | none => true
  | some x => x.sc k
def scA (k : Nat) : Option AO → Bool
  | none => true
  | some x => x.sc k
def CQ.sc (k : Nat) (c : CQ) : Bool := SV.scl k c.args && (c.r.sc k && ((c.hin.all fun p => p.2.sc k) && c.hout.all fun p => scA k p.2))
def Eqn.sc (k : Nat) : Eqn → Bool
  | .bin _ _ x y r => x.sc k && (y.sc k && r.sc k)
  | .un _ x r => x.sc k && r.sc k
  | .cv _ _ x r => x.sc k && r.sc k
  | .len _ x r => x.sc k && r.sc k
  | .six x i r => x.sc k && (i.sc k && r.sc k)
  | .idx _ x i r => x.sc k && (i.sc k && r.sc k)
  | .slc _ x l h m r => x.sc k && (scO k l && (scO k h && (scO k m && r.sc k)))
  | .lim _ xs => D.scs k xs
  | .isl _ x => x.sc k
  | .call c => c.sc k
theorem blt_mono {n k k' : Nat} (h : k ≤ k') (hn : Nat.blt n k = true) : Nat.blt n k' = true := blt_iff.2 (Nat.lt_of_lt_of_le (blt_iff.1 hn) h)
section
variable {k k' : Nat} (hk : k ≤ k')
include hk
mutual
theorem D.sc_mono : ∀ {x : D}, x.sc k = true → x.sc k' = true
  | .v n, h => by simp only [D.sc] at h ⊢; exact blt_mono hk h
  | .seg n, h => by simp only [D.sc] at h ⊢; exact blt_mono hk h
  | .sl z xs, h => by simp only [D.sc] at h ⊢; exact D.scs_mono h
  | .agg xs, h => by simp only [D.sc] at h ⊢; exact D.scs_mono h
  | .int _ _, _ => rfl
  | .bool _, _ => rfl
  | .str _, _ => rfl
  | .nilp, _ => rfl
  | .nil, _ => rfl
  | .nilk _, _ => rfl
theorem D.scs_mono : ∀ {xs : List D}, D.scs k xs = true → D.scs k' xs = true
  | [], _ => rfl
  | x :: r, h => by
    simp only [D.scs, Bool.and_eq_true] at h ⊢
    exact ⟨D.sc_mono h.1, D.scs_mono h.2⟩
end
mutual
theorem SV.sc_mono : ∀ {x : SV}, x.sc k = true → x.sc k' = true
  | .d x, h => by simp only [SV.sc] at h ⊢; exact D.sc_mono hk h
  | .el x, h => by simp only [SV.sc] at h ⊢; exact D.sc_mono hk h
  | .clo f a b, h => by simp only [SV.sc, Bool.and_eq_true] at h ⊢; exact ⟨SV.scl_mono h.1, SV.scl_mono h.2⟩
  | .tup xs, h => by simp only [SV.sc] at h ⊢; exact SV.scl_mono h
  | .ag xs, h => by simp only [SV.sc] at h ⊢; exact SV.scl_mono h
  | .dx z xs, h => by simp only [SV.sc] at h ⊢; exact D.scs_mono hk h
  | .loc _ _, _ => rfl
  | .row _, _ => rfl
  | .rel _ _ _, _ => rfl
  | .raw _, _ => rfl
  | .any, _ => rfl
  | .view _ _ _ _, _ => rfl
theorem SV.scl_mono : ∀ {xs : List SV}, SV.scl k xs = true → SV.scl k' xs = true
  | [], _ => rfl
  | x :: r, h => by
    simp only [SV.scl, Bool.and_eq_true] at h ⊢
    exact ⟨SV.sc_mono h.1, SV.scl_mono h.2⟩
end
theorem AO.sc_mono {x : AO} (h : x.sc k = true) : x.sc k' = true := by
  cases x with
  | box cs => exact SV.scl_mono hk h
  | row e z xs => exact D.scs_mono hk h
  | raw ob =>
    cases ob with
    | ob o => rfl
    | map kvs =>
      simp only [AO.sc, List.all_eq_true, Bool.and_eq_true] at h ⊢
      exact fun p hp => ⟨D.sc_mono hk (h p hp).1, D.sc_mono hk (h p hp).2⟩
theorem scO_mono {x : Option D} (h : scO k x = true) : scO k' x = true := by
  cases x with
  | none => rfl
  | some x => exact D.sc_mono hk h
theorem CQ.sc_mono {c : CQ} (h : c.sc k = true) : c.sc k' = true := by
  simp only [CQ.sc, Bool.and_eq_true, List.all_eq_true] at h ⊢
  refine ⟨SV.scl_mono hk h.1, SV.sc_mono hk h.2.1, fun p hp => AO.sc_mono hk (h.2.2.1 p hp), fun p hp => ?_⟩
  have := h.2.2.2 p hp
  cases hp2 : p.2 with
  | none => rfl
  | some a => rw [hp2] at this; exact AO.sc_mono hk this
theorem Eqn.sc_mono {e : Eqn} (h : e.sc k = true) : e.sc k' = true := by
  cases e <;> simp only [Eqn.sc, Bool.and_eq_true] at h ⊢
  case bin => exact ⟨D.sc_mono hk h.1, D.sc_mono hk h.2.1, D.sc_mono hk h.2.2⟩
  case un => exact ⟨D.sc_mono hk h.1, D.sc_mono hk h.2⟩
  case cv => exact ⟨D.sc_mono hk h.1, D.sc_mono hk h.2⟩
  case len => exact ⟨D.sc_mono hk h.1, D.sc_mono hk h.2⟩
  case six => exact ⟨D.sc_mono hk h.1, D.sc_mono hk h.2.1, D.sc_mono hk h.2.2⟩
  case idx => exact ⟨D.sc_mono hk h.1, D.sc_mono hk h.2.1, D.sc_mono hk h.2.2⟩
  case slc => exact ⟨D.sc_mono hk h.1, scO_mono hk h.2.1, scO_mono hk h.2.2.1, scO_mono hk h.2.2.2.1, D.sc_mono hk h.2.2.2.2⟩
  case lim => exact D.scs_mono hk h
  case isl => exact D.sc_mono hk h
  case call => exact CQ.sc_mono hk h
end
theorem scO_si {σ σ' : Nat → D} {k : Nat} (ha : ∀ n, n < k → σ n = σ' n) {x : Option D} (h : scO k x = true) : (x.map fun y => SV.d (y.si σ)) = x.map fun y => SV.d (y.si σ') := by
  cases x with
  | none => rfl
  | some x => simp only [Option.map_some, D.sc_si ha x h]
theorem Eqn.sc_holds {P : Program} {Θ : Tab} {σ σ' : Nat → D} {k : Nat} (ha : ∀ n, n < k → σ n = σ' n) {e : Eqn} (h : e.sc k = true) (hh : e.holds P Θ σ) : e.holds P Θ σ' := by
  cases e <;> simp only [Eqn.sc, Bool.and_eq_true] at h <;> simp only [Eqn.holds] at hh ⊢
  case bin => rw [← D.sc_si ha _ h.1, ← D.sc_si ha _ h.2.1, ← D.sc_si ha _ h.2.2]; exact hh
  case un => rw [← D.sc_si ha _ h.1, ← D.sc_si ha _ h.2]; exact hh
  case cv => rw [← D.sc_si ha _ h.1, ← D.sc_si ha _ h.2]; exact hh
  case len => rw [← D.sc_si ha _ h.1, ← D.sc_si ha _ h.2]; exact hh
  case six => rw [← D.sc_si ha _ h.1, ← D.sc_si ha _ h.2.1, ← D.sc_si ha _ h.2.2]; exact hh
  case idx => rw [← D.sc_si ha _ h.1, ← D.sc_si ha _ h.2.1, ← D.sc_si ha _ h.2.2]; exact hh
  case slc => rw [← D.sc_si ha _ h.1, ← scO_si ha h.2.1, ← scO_si ha h.2.2.1, ← scO_si ha h.2.2.2.1, ← D.sc_si ha _ h.2.2.2.2]; exact hh
  case lim => rw [← (D.scs_si ha _ h).1]; exact hh
  case isl => rw [← D.sc_si ha _ h]; exact hh
  case call c =>
    obtain ⟨h1, h2, h3, h4⟩ := by simpa only [CQ.sc, Bool.and_eq_true] using h
    intro o nk hin
    have e1 : c.args.map (SV.si σ') = c.args.map (SV.si σ) := by rw [← SV.sil_map, ← SV.sil_map, SV.scl_si ha _ h1]
    have e2 := SV.sc_si ha _ h2
    have e3 : lsi σ' c.hout = lsi σ c.hout := by
      simp only [lsi]
      refine List.map_congr_left fun p hp => ?_
      have := List.all_eq_true.1 h4 p hp
      cases hp2 : p.2 with
      | none => simp
      | some a => rw [hp2] at this; simp only [Option.map_some, AO.sc_si ha a this]
    rw [e1, ← e2, e3]
    refine hh o nk fun p hp => ?_
    rw [hin p hp, AO.sc_si ha _ (List.all_eq_true.1 h3 p hp)]
theorem Sto.new_nil {w : World} {S : Nat → Prop} {γ : Nat → Value} {o : Nat → Option AO} {nk : Nat} (h : Sto w S γ o nk) (e z : Nat) :
    Sto w S (upd γ nk (.slice none 0 0)) (upd o nk (some (.row e z []))) (nk + 1) ∧ ∀ t x, t < nk → upd o nk (some (.row e z [])) t = some x → ∃ y, o t = some y ∧ AO.kin y x ∧ upd γ nk (.slice none 0 0) t = γ t := by
  have hkeys : ∀ t x, t < nk → upd o nk (some (.row e z [])) t = some x → ∃ y, o t = some y ∧ AO.kin y x ∧ upd γ nk (.slice none 0 0) t = γ t := by
    intro t x ht hx
    rw [upd_ne _ _ (by omega)] at hx
    exact ⟨x, hx, AO.kin_refl x, upd_ne _ _ (by omega)⟩
  have hlive : ∀ t x g, upd o nk (some (.row e z [])) t = some x → blk (upd γ nk (.slice none 0 0) t) = some g → t ≠ nk ∧ o t = some x ∧ blk (γ t) = some g := by
    intro t x g hx hg
    by_cases ht : t = nk
    · subst ht
      rw [upd_same] at hg
      simp [blk] at hg
    · rw [upd_ne _ _ ht] at hx hg
      exact ⟨ht, hx, hg⟩
  refine ⟨⟨h.s_lt, ?_, ?_, ?_, ?_, ?_, ?_⟩, hkeys⟩
  · intro t x hx
    by_cases ht : t = nk
    · omega
    · rw [upd_ne _ _ ht] at hx
      have := h.o_lt t x hx; omega
  · intro t cs' hc
    have ht : t ≠ nk := fun e' => by subst e'; rw [upd_same] at hc; cases hc
    rw [upd_ne _ _ ht] at hc
    obtain ⟨⟨g, arr', ty', h4, h5, h6, h7⟩, hl'⟩ := h.box t cs' hc
    rw [upd_ne _ _ ht]
    exact ⟨⟨g, arr', ty', h4, h5, h6, fun i c u h8 h9 => (h7 i c u h8 h9).move (fun _ h => h) (fun k hk => rfl) hkeys (lts_get hl' i c h8)⟩, SV.lts_mono (Nat.le_succ _) hl'⟩
  · intro t e' z' xs hx
    by_cases ht : t = nk
    · subst ht
      rw [upd_same] at hx
      simp only [Option.some.injEq, AO.row.injEq] at hx
      obtain ⟨rfl, rfl, rfl⟩ := hx
      rw [upd_same]
      exact ⟨[], World.ownsRow_nil w 0 e z, rfl, by simp, by simp⟩
    · rw [upd_ne _ _ ht] at hx
      rw [upd_ne _ _ ht]
      exact h.row t e' z' xs hx
  · intro t ob hx
    have ht : t ≠ nk := fun e' => by subst e'; rw [upd_same] at hx; cases hx
    rw [upd_ne _ _ ht] at hx
    rw [upd_ne _ _ ht]
    exact h.raw t ob hx
  · intro t x g hx hg
    obtain ⟨_, h1, h2⟩ := hlive t x g hx hg
    exact h.away t x g h1 h2
  · intro t t' x x' g hne hx hx' hg hg'
    obtain ⟨_, h1, h2⟩ := hlive t x g hx hg
    obtain ⟨_, h3, h4⟩ := hlive t' x' g hx' hg'
    exact h.apart t t' x x' g hne h1 h3 h2 h4
theorem Rel.new_nil {E : Ent} {s : St} {a : Act} {w : World} (h : Rel E s a w) (u e z : Nat) (hu : s.sl u = .d .nil) : Rel E ⟨upd s.sl u (.row s.nk), upd s.o s.nk (some (.row e z [])), s.nk + 1⟩ a w := by
  obtain ⟨S, γ, h⟩ := h
  obtain ⟨h1, hk⟩ := h.sto.new_nil e z
  have ht : Tr E.w E.S E.γ E.o E.nk w S (upd γ s.nk (.slice none 0 0)) (upd s.o s.nk (some (.row e z []))) (s.nk + 1) :=
    ⟨h.tr.os, h.tr.tape, h.tr.output, h.tr.size, Nat.le_succ_of_le h.tr.nks, h.tr.kept, h.tr.s, h.tr.s_new, fun g ⟨t, x, hx, hg⟩ => h.tr.live g (by
      by_cases hts : t = s.nk
      · subst hts; rw [upd_same] at hg; simp [blk] at hg
      · rw [upd_ne _ _ hts] at hx hg; exact ⟨t, x, hx, hg⟩), fun t x htl hx => by
      have hlt : t < s.nk := Nat.lt_of_lt_of_le htl h.tr.nks
      rw [upd_ne _ _ (by omega)] at hx
      rw [upd_ne _ _ (by omega)]
      exact h.tr.keys t x htl hx⟩
  refine ⟨S, _, h1, ht, fun v => ?_, fun v => ?_, h.df, h.nn⟩
  · show SR w S _ (upd s.o s.nk (some (.row e z []))) (upd s.sl u (.row s.nk) v) _
    by_cases hv : v = u
    · subst hv
      rw [upd_same]
      have h2 := h.sl v
      rw [hu] at h2
      generalize a.tmps.getD v undef = q at h2 ⊢
      cases h2 with
      | d _ _ hr =>
        cases hr
        exact .row _ _ fun e' z' xs hx => (upd_same _ _ _).symm
    · rw [upd_ne _ _ hv]
      exact (h.sl v).move (fun _ h => h) (fun _ _ => rfl) hk (h.slt v)
  · show SV.lt (s.nk + 1) (upd s.sl u (.row s.nk) v)
    by_cases hv : v = u
    · subst hv; rw [upd_same]; exact Nat.lt_succ_self _
    · rw [upd_ne _ _ hv]; exact SV.lt_mono (Nat.le_succ _) (h.slt v)
def XS.ad1 (s : XS) (u e z : Nat) : XS :=
  match s.sl.get u with
  | some (.d .nil) => ⟨s.sl.set u (some (.row s.nk)), s.o.set s.nk (some (.row e z [])), s.nk + 1⟩
  | _ => s
theorem XS.ad1_ok {σ : Nat → D} {E : Ent} {s : XS} {a : Act} {w : World} (u e z : Nat) (h : Rel E (s.si σ).st a w) : Rel E ((s.ad1 u e z).si σ).st a w := by
  unfold XS.ad1
  split
  · rename_i hu
    have h1 : (s.si σ).st.sl u = .d .nil := by rw [slY]; simp only [hu]; rfl
    have h2 := h.new_nil u e z h1
    have e1 : ((XS.mk (s.sl.set u (some (.row s.nk))) (s.o.set s.nk (some (.row e z []))) (s.nk + 1)).si σ).st = ⟨upd (s.si σ).st.sl u (.row (s.si σ).st.nk), upd (s.si σ).st.o (s.si σ).st.nk (some (.row e z [])), (s.si σ).st.nk + 1⟩ := by
      have := putY_st (σ := σ) s (some u) (.row s.nk) (s.o.set s.nk (some (.row e z []))) (s.nk + 1)
      simp only [putD] at this
      rw [this, TM.get_set, upd_si, si_sto]
      rfl
    rw [e1]; exact h2
  · exact h
def XS.ads (s : XS) : List (Nat × Nat × Nat) → XS
  | [] => s
  | (u, e, z) :: r => (s.ad1 u e z).ads r
theorem XS.ads_ok {σ : Nat → D} {E : Ent} {a : Act} {w : World} : ∀ (l : List (Nat × Nat × Nat)) {s : XS}, Rel E (s.si σ).st a w → Rel E ((s.ads l).si σ).st a w
  | [], s, h => h
  | (u, e, z) :: r, s, h => ads_ok r (s.ad1_ok u e z h)
variable {σ : Nat → D}
def ofL {α : Type} : List (Nat × α) → TM α → TM α
  | [], t => t
  | (k, x) :: r, t => ofL r (t.set k (some x))
theorem ofL_mem {α : Type} : ∀ (l : List (Nat × α)) (t : TM α) (u : Nat) (c : α), (ofL l t).get u = some c → (u, c) ∈ l ∨ t.get u = some c
  | [], t, u, c, h => .inr h
  | (k, x) :: r, t, u, c, h => by
    rcases ofL_mem r _ u c h with h1 | h1
    · exact .inl (by simp [h1])
    · rw [TM.get_set] at h1
      by_cases hu : u = k
      · subst hu
        rw [upd_same, Option.some.injEq] at h1
        exact .inl (by simp [h1])
      · rw [upd_ne _ _ hu] at h1; exact .inr h1
structure GS where
  sl : List (Nat × SV)
  o : List (Nat × AO)
  nk : Nat
def GS.xs (g : GS) : XS := ⟨ofL g.sl .e, ofL g.o .e, g.nk⟩
mutual
def SV.ltb (n : Nat) : SV → Bool
  | .loc t _ => Nat.blt t n
  | .row t => Nat.blt t n
  | .rel t _ _ => Nat.blt t n
  | .raw t => Nat.blt t n
  | .view t _ _ _ => Nat.blt t n
  | .dx _ _ => true
  | .clo _ fs cs => SV.ltsb n fs && SV.ltsb n cs
  | .tup cs => SV.ltsb n cs
  | .ag cs => SV.ltsb n cs
  | .d _ => true
  | .el _ => true
  | .any => true
def SV.ltsb (n : Nat) : List SV → Bool
  | [] => true
  | c :: cs => SV.ltb n c && SV.ltsb n cs
end
mutual
theorem SV.ltb_ok {n : Nat} : ∀ {c : SV}, SV.ltb n c = true → (c.si σ).lt n
  | .loc t _, h => blt_iff.1 h
  | .row t, h => blt_iff.1 h
  | .rel t _ _, h => blt_iff.1 h
  | .raw t, h => blt_iff.1 h
  | .view t _ _ _, h => blt_iff.1 h
  | .dx _ _, _ => trivial
  | .clo _ fs cs, h => by
    simp only [SV.ltb, Bool.and_eq_true] at h
    exact ⟨SV.ltsb_ok h.1, SV.ltsb_ok h.2⟩
  | .tup cs, h => SV.ltsb_ok (by simpa only [SV.ltb] using h)
  | .ag cs, h => SV.ltsb_ok (by simpa only [SV.ltb] using h)
  | .d _, _ => trivial
  | .el _, _ => trivial
  | .any, _ => trivial
theorem SV.ltsb_ok {n : Nat} : ∀ {cs : List SV}, SV.ltsb n cs = true → SV.lts n (SV.sil σ cs)
  | [], _ => trivial
  | c :: cs, h => by
    simp only [SV.ltsb, Bool.and_eq_true] at h
    exact ⟨SV.ltb_ok h.1, SV.ltsb_ok h.2⟩
end
def AO.ltb (n : Nat) : AO → Bool
  | .box cs => SV.ltsb n cs
  | _ => true
theorem AO.ltb_ok {n : Nat} {x : AO} (h : x.ltb n = true) : (x.si σ).lt n := by
  cases x with
  | box cs => simp only [AO.si, AO.lt, ← SV.sil_map]; exact SV.ltsb_ok h
  | row e z xs => trivial
  | raw ob => trivial
def tn (τ : List Nat) : Nat → Nat := fun k => match τ[k]? with
  | some n => n
  | none => 0
def idB : Nat → Nat → List Nat → Bool
  | 0, _, _ => true
  | k + 1, i, x :: r => Nat.beq x i && idB k (i + 1) r
  | _ + 1, _, [] => false
theorem idB_ok : ∀ {k i : Nat} {l : List Nat}, idB k i l = true → ∀ t, t < k → l[t]? = some (i + t)
  | 0, i, l, _, t, h => by omega
  | k + 1, i, [], h, _, _ => by simp [idB] at h
  | k + 1, i, x :: r, h, 0, _ => by
    simp only [idB, Bool.and_eq_true] at h
    simp [Nat.eq_of_beq_eq_true h.1]
  | k + 1, i, x :: r, h, t + 1, ht => by
    simp only [idB, Bool.and_eq_true] at h
    have := idB_ok h.2 t (by omega)
    simp only [List.getElem?_cons_succ, this]
    congr 1; omega
def mtB (k0 : Nat) (g : GS) (δ : List D) (τ : List Nat) (s : XS) : Bool :=
  Nat.ble k0 g.nk && (Nat.beq τ.length g.nk && (idB k0 0 τ && (nodupN τ && ((g.o.all fun p => Nat.blt p.1 g.nk && (AO.ltb g.nk p.2 && match s.o.get (tn τ p.1) with
    | some a => AO.eqb ((p.2.si (dv δ)).ren (tn τ)) a
    | none => false)) && g.sl.all fun p => SV.ltb g.nk p.2 && match s.sl.get p.1 with
    | some c => SV.eqb ((p.2.si (dv δ)).ren (tn τ)) c
    | none => false))))
theorem mt_ok {k0 : Nat} {g : GS} {δ : List D} {τ : List Nat} {s : XS} (hd : plainB δ = true) (h : mtB k0 g δ τ s = true) : Wk k0 (tn τ) (s.si σ).st (g.xs.si (dv (δ.map (D.si σ)))).st := by
  simp only [mtB, Bool.and_eq_true] at h
  obtain ⟨h1, h2, h3, h4, h5, h6⟩ := h
  have hns := dv_ns hd
  have h2 := Nat.eq_of_beq_eq_true h2
  have hso : (g.xs.si (dv (δ.map (D.si σ)))).st.o = osi (dv (δ.map (D.si σ))) (ofL g.o .e).get := XS.si_o _ _
  have hget : ∀ t x, osi (dv (δ.map (D.si σ))) (ofL g.o .e).get t = some x → ∃ a, (t, a) ∈ g.o ∧ x = a.si (dv (δ.map (D.si σ))) := fun t x hx => by
    obtain ⟨a, h7, rfl⟩ := Option.map_eq_some_iff.1 hx
    rcases ofL_mem _ _ _ _ h7 with h8 | h8
    · exact ⟨a, h8, rfl⟩
    · simp [TM.get] at h8
  refine ⟨⟨Nat.le_of_ble_eq_true h1, fun t x hx => ?_, fun t t' x x' hx hx' he => ?_, fun t x ht hx => ?_⟩, fun u => ?_⟩
  · rw [hso] at hx
    obtain ⟨a, ha, rfl⟩ := hget t x hx
    have := List.all_eq_true.1 h5 _ ha
    simp only [Bool.and_eq_true] at this
    obtain ⟨k1, k2, k3⟩ := this
    refine ⟨blt_iff.1 k1, ?_, AO.ltb_ok k2⟩
    split at k3
    · rename_i b hb
      have e := AO.eqb_ok k3
      rw [si_sto]
      simp only [osi, hb, Option.map_some, ← e, Option.some.injEq]
      rw [← AO.ren_si, AO.si_si hns, dv_si]
    · cases k3
  · rw [hso] at hx hx'
    obtain ⟨a, ha, _⟩ := hget t x hx
    obtain ⟨b, hb, _⟩ := hget t' x' hx'
    have k1 := List.all_eq_true.1 h5 _ ha
    have k2 := List.all_eq_true.1 h5 _ hb
    simp only [Bool.and_eq_true] at k1 k2
    have l1 := blt_iff.1 k1.1
    have l2 := blt_iff.1 k2.1
    have hn := nodupN_ok h4
    simp only [tn] at he
    rw [List.getElem?_eq_getElem (by omega), List.getElem?_eq_getElem (by omega)] at he
    exact (List.getElem_inj hn).1 he
  · have := idB_ok h3 t ht
    simp only [tn, this, Nat.zero_add]
  · have hsl := slY (σ := dv (δ.map (D.si σ))) g.xs
    have hsu := congrFun hsl u
    rw [hsu]
    show (((g.xs.sl.get u).map (SV.si (dv (δ.map (D.si σ))))).getD .any) = .any ∨ SV.ren (tn τ) (((g.xs.sl.get u).map (SV.si (dv (δ.map (D.si σ))))).getD .any) = _ ∧ SV.lt _ (((g.xs.sl.get u).map (SV.si (dv (δ.map (D.si σ))))).getD .any)
    cases hc : g.xs.sl.get u with
    | none => exact .inl rfl
    | some c =>
      right
      simp only [Option.map_some, Option.getD_some]
      rcases ofL_mem _ _ _ _ hc with h8 | h8
      · have := List.all_eq_true.1 h6 _ h8
        simp only [Bool.and_eq_true] at this
        obtain ⟨k2, k3⟩ := this
        refine ⟨?_, SV.ltb_ok k2⟩
        split at k3
        · rename_i b hb
          have e := SV.eqb_ok k3
          rw [slY]
          simp only [hb, Option.map_some, Option.getD_some, ← e]
          rw [← ren_si, SV.si_si hns, dv_si]
        · cases k3
      · simp [TM.get] at h8
structure FS where
  n : Nat
  c : Code
  rs : List ResultVar
  fz : Bool
  args : List SV
  o0 : List (Nat × AO)
  k0 : Nat
  gs : List (Nat × GS)
  xr : SV
  xg : GS
def gfind : List (Nat × GS) → Nat → Option GS
  | [], _ => none
  | (k, g) :: r, h => bif Nat.beq k h then some g else gfind r h
def FS.at (S : FS) (h : Nat) : XS := bif Nat.beq h 0 then ⟨TM.ofList S.args, ofL S.o0 .e, S.k0⟩ else match gfind S.gs h with
  | some g => g.xs
  | none => ⟨.e, .e, 0⟩
def FS.tm (S : FS) (Θ : Tab) (s : XS) : XS := bif S.fz then s.tameY Θ S.rs else s
def FUEL : Nat := 1000000
def fRun (X : YX) (S : FS) (h : Nat) : Option (YE × XS) :=
  bif Nat.beq h 0 then yC X FUEL (fun b => (gfind S.gs b).isSome) 0 S.n S.c ⟨TM.ofList S.args, ofL S.o0 .e, S.k0⟩
  else match gfind S.gs h with
    | some g => bif Nat.ble h (nl S.c) then yR X FUEL (fun b => (gfind S.gs b).isSome) S.n S.c 0 h g.xs else none
    | none => none
inductive Y where
  | go (h : Nat) (δ : List D) (τ : List Nat) (ad : List (Nat × Nat × Nat))
  | ret (δ : List D) (τ : List Nat)
  | eq (e : Eqn) (j : Nat) (t : Y)
  | ite (n : Nat) (a b : Y)
def yChkT (X : YX) (S : FS) (h : Nat) : Y → List Eqn → List (Nat × Bool) → Nat → Bool
  | .go h' δ τ ad, DS, KN, k => plainB δ && (D.scs k δ && match fRun { X with DS := DS, KN := KN } S h with
    | some (.hd h2, s') => Nat.beq h2 h' && match gfind S.gs h' with
      | some g => mtB S.k0 g δ τ (s'.ads ad)
      | none => false
    | _ => false)
  | .ret δ τ, DS, KN, k => plainB δ && (D.scs k δ && match fRun { X with DS := DS, KN := KN } S h with
    | some (.e x, s') => (match x with
        | .normal => true
        | .ret => true
        | _ => false) && match S.tm X.Θ s' with
      | s2 => match xRes X.Θ S.rs s2 with
        | some (vs, s3) => SV.eqb ((S.xr.si (dv δ)).ren (tn τ)) (tupOf vs) && (SV.ltb S.xg.nk S.xr && mtB S.k0 S.xg δ τ s3)
        | none => false
    | _ => false)
  | .eq e j t, DS, KN, k => e.sc (k + j) && yChkT X S h t (e :: DS) KN (k + j)
  | .ite n a b, DS, KN, k => Nat.blt n k && (yChkT X S h a DS ((n, true) :: KN) k && yChkT X S h b DS ((n, false) :: KN) k)
def Y.ok (P : Program) (Θ : Tab) (A : Nat → List D → Prop) (R : List D → Prop) : Y → List D → Prop
  | .go h δ _ _, l => A h (δ.map (D.si (dv l)))
  | .ret δ _, l => R (δ.map (D.si (dv l)))
  | .eq e j t, l => ∃ new : List D, new.length = j ∧ plainB new = true ∧ e.holds P Θ (dv (l ++ new)) ∧ Y.ok P Θ A R t (l ++ new)
  | .ite n a b, l => ∃ c : Bool, dv l n = .bool c ∧ (c = true → Y.ok P Θ A R a l) ∧ (c = false → Y.ok P Θ A R b l)
def Qx (S : FS) (R : List D → Prop) : SV → (Nat → Option AO) → Nat → Prop := fun r o nk => ∃ (l : List D) (τ : Nat → Nat), R l ∧ r = (S.xr.si (dv l)).ren τ ∧ Wko S.k0 τ o (S.xg.xs.si (dv l)).st.o S.xg.nk ∧ (S.xr.si (dv l)).lt S.xg.nk
def FAt (P : Program) (Θ : Tab) (S : FS) (R : List D → Prop) (h : Nat) (l : List D) : Prop :=
  plainB l = true → ∀ E a w, E.n = S.n → E.nk = S.k0 → Rel E ((S.at h).si (dv l)).st a w →
    (if h = 0 then S.c.wp P (fun e a' w' => ∃ s', Rel E s' a' w' ∧ retC Θ S.rs (Qx S R) e s') a w
    else rwp P S.c h (fun e a' w' => ∃ s', Rel E s' a' w' ∧ retC Θ S.rs (Qx S R) e s') a w)
structure YP (P : Program) (X : YX) : Prop where
  hΘ : TabOk P X.Θ
  tb : ∀ f fn, X.tb f = some fn → P.funcs[f]? = some fn ∧ (fn.name == "runtime.NumGoroutine") = false
  nat : ∀ (σ : Nat → D) f asx d, X.nat f asx = some d → PSpec P f (asx.map (SV.si σ)) (.d (d.si σ))
  mix : P.follows .mixedOrders = true
variable {σ : Nat → D}
theorem YP.ok {P : Program} {X : YX} (hP : YP P X) {DS : List Eqn} {KN : List (Nat × Bool)} (hl : Lf σ) (hD : DSok P X.Θ σ DS) (hN : KNok σ KN) : YOk P σ { X with DS := DS, KN := KN } :=
  ⟨hP.hΘ, hP.tb, fun f asx d h => hP.nat σ f asx d h, hP.mix, hD, hN, hl⟩
theorem yR_ok {P : Program} {X : YX} (hX : YOk P σ X) {m : Nat} {st : Nat → Bool} {n : Nat} : ∀ (c : Code) (b h : Nat) (s s' : XS) (x : YE), 1 ≤ h → h ≤ nl c → yR X m st n c b h s = some (x, s') →
    HdIn c x ∧ ∀ E a w Q, E.n = n → Rel E (s.si σ).st a w → Prem P σ c E s' x Q → rwp P c h Q a w := by
  intro c
  induction c with
  | seq x0 y ihx ihy =>
    intro b h s s' x h1 h2 hr
    simp only [yR] at hr
    cases hb : Nat.ble h (nl x0) with
    | true =>
      have hle := Nat.le_of_ble_eq_true hb
      rw [hb] at hr
      simp only [cond_true] at hr
      cases hx : yR X m st n x0 b h s with
      | none => rw [hx] at hr; cases hr
      | some p =>
        obtain ⟨e1, s1⟩ := p
        rw [hx] at hr
        obtain ⟨hd1, k1⟩ := ihx _ _ _ _ _ h1 hle hx
        have hrw : ∀ Q a w, rwp P x0 h (Exit.then (y.wp P Q) Q) a w → rwp P (.seq x0 y) h Q a w := fun Q a w q => by simp only [rwp]; rw [if_pos hle]; exact q
        cases e1 with
        | hd h' =>
          simp only [Option.some.injEq, Prod.mk.injEq] at hr
          obtain ⟨rfl, rfl⟩ := hr
          refine ⟨⟨hd1.1, by simp only [nl]; have := hd1.2; omega⟩, fun E a w Q he hr hp => hrw _ _ _ (k1 E a w _ he hr fun a2 w2 hr2 => ?_)⟩
          have := hp a2 w2 hr2
          simp only [rwp] at this
          rw [if_pos hd1.2] at this
          exact this
        | e e1 =>
          cases e1 with
          | normal =>
            rcases up_some hr with ⟨e2, rfl, h3⟩ | ⟨h', rfl, h3⟩
            · obtain ⟨_, k2⟩ := (yC_ok hX m).1 _ _ _ _ _ _ _ h3
              exact ⟨trivial, fun E a w Q he hr hp => hrw _ _ _ (k1 E a w _ he hr fun a2 w2 hr2 => k2 E a2 w2 Q he hr2 hp)⟩
            · obtain ⟨hd2, k2⟩ := (yC_ok hX m).1 _ _ _ _ _ _ _ h3
              refine ⟨⟨by have := hd2.1; omega, by simp only [nl]; have := hd2.2; omega⟩, fun E a w Q he hr hp => hrw _ _ _ (k1 E a w _ he hr fun a2 w2 hr2 => k2 E a2 w2 Q he hr2 fun a3 w3 hr3 => ?_)⟩
              have := hp a3 w3 hr3
              simp only [rwp] at this
              rw [if_neg (by have := hd2.1; omega), Nat.add_sub_cancel] at this
              exact this
          | _ =>
            simp only [Option.some.injEq, Prod.mk.injEq] at hr
            obtain ⟨rfl, rfl⟩ := hr
            exact ⟨trivial, fun E a w Q he hr hp => hrw _ _ _ (k1 E a w _ he hr fun a2 w2 hr2 => hp a2 w2 hr2)⟩
    | false =>
      have hle : ¬ h ≤ nl x0 := fun q => by rw [Nat.ble_eq_true_of_le q] at hb; cases hb
      rw [hb] at hr
      simp only [cond_false] at hr
      have hrw : ∀ Q a w, rwp P y (h - nl x0) Q a w → rwp P (.seq x0 y) h Q a w := fun Q a w q => by simp only [rwp]; rw [if_neg hle]; exact q
      rcases up_some hr with ⟨e2, rfl, h3⟩ | ⟨h', rfl, h3⟩
      · obtain ⟨_, k1⟩ := ihy _ _ _ _ _ (by omega) (by simp only [nl] at h2; omega) h3
        exact ⟨trivial, fun E a w Q he hr hp => hrw _ _ _ (k1 E a w Q he hr hp)⟩
      · obtain ⟨hd1, k1⟩ := ihy _ _ _ _ _ (by omega) (by simp only [nl] at h2; omega) h3
        refine ⟨⟨by have := hd1.1; omega, by simp only [nl]; have := hd1.2; omega⟩, fun E a w Q he hr hp => hrw _ _ _ (k1 E a w Q he hr fun a2 w2 hr2 => ?_)⟩
        have := hp a2 w2 hr2
        simp only [rwp] at this
        rw [if_neg (by have := hd1.1; omega), Nat.add_sub_cancel] at this
        exact this
  | block id c ih =>
    intro b h s s' x h1 h2 hr
    simp only [yR] at hr
    cases hx : yR X m st n c b h s with
    | none => rw [hx] at hr; cases hr
    | some p =>
      obtain ⟨e1, s1⟩ := p
      rw [hx] at hr
      obtain ⟨hd1, k1⟩ := ih _ _ _ _ _ h1 (by simpa only [nl] using h2) hx
      cases e1 with
      | hd h' =>
        simp only [Option.some.injEq, Prod.mk.injEq] at hr
        obtain ⟨rfl, rfl⟩ := hr
        exact ⟨hd1, fun E a w Q he hr hp => k1 E a w _ he hr fun a2 w2 hr2 => hp a2 w2 hr2⟩
      | e e1 =>
        cases e1 with
        | exit id' =>
          simp only [TM.beq_cond] at hr
          by_cases hid : id' = id
          · rw [if_pos hid] at hr
            simp only [Option.some.injEq, Prod.mk.injEq] at hr
            obtain ⟨rfl, rfl⟩ := hr
            refine ⟨trivial, fun E a w Q he hr hp => k1 E a w _ he hr fun a2 w2 hr2 => ?_⟩
            show if id' = id then _ else _
            rw [if_pos hid]; exact hp a2 w2 hr2
          · rw [if_neg hid] at hr
            simp only [Option.some.injEq, Prod.mk.injEq] at hr
            obtain ⟨rfl, rfl⟩ := hr
            refine ⟨trivial, fun E a w Q he hr hp => k1 E a w _ he hr fun a2 w2 hr2 => ?_⟩
            show if id' = id then _ else _
            rw [if_neg hid]; exact hp a2 w2 hr2
        | _ =>
          simp only [Option.some.injEq, Prod.mk.injEq] at hr
          obtain ⟨rfl, rfl⟩ := hr
          exact ⟨trivial, fun E a w Q he hr hp => k1 E a w _ he hr fun a2 w2 hr2 => hp a2 w2 hr2⟩
  | cond y c d ihc ihd =>
    intro b h s s' x h1 h2 hr
    simp only [yR] at hr
    cases hb : Nat.ble h (nl c) with
    | true =>
      have hle := Nat.le_of_ble_eq_true hb
      rw [hb] at hr
      simp only [cond_true] at hr
      obtain ⟨hd1, k1⟩ := ihc _ _ _ _ _ h1 hle hr
      refine ⟨?_, fun E a w Q he hr hp => ?_⟩
      · cases x with
        | e => trivial
        | hd h' => exact ⟨hd1.1, by simp only [nl]; have := hd1.2; omega⟩
      · simp only [rwp]; rw [if_pos hle]
        refine k1 E a w Q he hr fun a2 w2 hr2 => ?_
        have := hp a2 w2 hr2
        cases x with
        | e => exact this
        | hd h' => simp only [rwp] at this; rw [if_pos hd1.2] at this; exact this
    | false =>
      have hle : ¬ h ≤ nl c := fun q => by rw [Nat.ble_eq_true_of_le q] at hb; cases hb
      rw [hb] at hr
      simp only [cond_false] at hr
      have hrw : ∀ Q a w, rwp P d (h - nl c) Q a w → rwp P (.cond y c d) h Q a w := fun Q a w q => by simp only [rwp]; rw [if_neg hle]; exact q
      rcases up_some hr with ⟨e2, rfl, h3⟩ | ⟨h', rfl, h3⟩
      · obtain ⟨_, k1⟩ := ihd _ _ _ _ _ (by omega) (by simp only [nl] at h2; omega) h3
        exact ⟨trivial, fun E a w Q he hr hp => hrw _ _ _ (k1 E a w Q he hr hp)⟩
      · obtain ⟨hd1, k1⟩ := ihd _ _ _ _ _ (by omega) (by simp only [nl] at h2; omega) h3
        refine ⟨⟨by have := hd1.1; omega, by simp only [nl]; have := hd1.2; omega⟩, fun E a w Q he hr hp => hrw _ _ _ (k1 E a w Q he hr fun a2 w2 hr2 => ?_)⟩
        have := hp a2 w2 hr2
        simp only [rwp] at this
        rw [if_neg (by have := hd1.1; omega), Nat.add_sub_cancel] at this
        exact this
  | loop c ih =>
    intro b h s s' x h1 h2 hr
    simp only [yR] at hr
    have fin : ∀ (e1 : YE) (s1 : XS), HdIn c e1 → (match e1 with
        | .e .normal => some (YE.hd 1, s1)
        | .hd h' => some (.hd (h' + 1), s1)
        | e => some (e, s1)) = some (x, s') → HdIn (.loop c) x ∧ ∀ E Q, Prem P σ (.loop c) E s' x Q → Prem P σ c E s1 e1 (Exit.then (LW P c Q) Q) := by
      intro e1 s1 hd1 hr
      cases e1 with
      | hd h' =>
        simp only [Option.some.injEq, Prod.mk.injEq] at hr
        obtain ⟨rfl, rfl⟩ := hr
        refine ⟨⟨by omega, by simp only [nl]; have := hd1.2; omega⟩, fun E Q hp a2 w2 hr2 => ?_⟩
        have := hp a2 w2 hr2
        simp only [rwp] at this
        rw [if_neg (by have := hd1.1; omega)] at this
        exact this
      | e e1 =>
        cases e1 with
        | normal =>
          simp only [Option.some.injEq, Prod.mk.injEq] at hr
          obtain ⟨rfl, rfl⟩ := hr
          refine ⟨⟨Nat.le_refl _, by simp [nl]⟩, fun E Q hp a2 w2 hr2 => ?_⟩
          have := hp a2 w2 hr2
          simp only [rwp, if_true] at this
          exact this
        | _ =>
          simp only [Option.some.injEq, Prod.mk.injEq] at hr
          obtain ⟨rfl, rfl⟩ := hr
          exact ⟨trivial, fun E Q hp a2 w2 hr2 => hp a2 w2 hr2⟩
    by_cases hh : h = 1
    · subst hh
      simp only [Nat.beq_refl, cond_true] at hr
      cases hx : yC X m st (b + 1) n c s with
      | none => rw [hx] at hr; cases hr
      | some p =>
        obtain ⟨e1, s1⟩ := p
        rw [hx] at hr
        obtain ⟨hd1, k1⟩ := (yC_ok hX m).1 _ _ _ _ _ _ _ hx
        obtain ⟨k2, k3⟩ := fin e1 s1 hd1 hr
        refine ⟨k2, fun E a w Q he hr hp => ?_⟩
        simp only [rwp, if_true]
        exact LW.fold (k1 E a w _ he hr (k3 E Q hp))
    · have hbe : Nat.beq h 1 = false := by
        cases hq : Nat.beq h 1 with
        | false => rfl
        | true => exact absurd (Nat.eq_of_beq_eq_true hq) hh
      rw [hbe] at hr
      simp only [cond_false] at hr
      cases hx : yR X m st n c (b + 1) (h - 1) s with
      | none => rw [hx] at hr; cases hr
      | some p =>
        obtain ⟨e1, s1⟩ := p
        rw [hx] at hr
        obtain ⟨hd1, k1⟩ := ih _ _ _ _ _ (by omega) (by simp only [nl] at h2; omega) hx
        obtain ⟨k2, k3⟩ := fin e1 s1 hd1 hr
        refine ⟨k2, fun E a w Q he hr hp => ?_⟩
        simp only [rwp]
        rw [if_neg hh]
        exact k1 E a w _ he hr (k3 E Q hp)
  | scope c ih =>
    intro b h s s' x h1 h2 hr
    simp only [yR] at hr
    cases hx : yR X m st n c b h s with
    | none => rw [hx] at hr; cases hr
    | some p =>
      obtain ⟨e1, s1⟩ := p
      rw [hx] at hr
      obtain ⟨hd1, k1⟩ := ih _ _ _ _ _ h1 (by simpa only [nl] using h2) hx
      cases e1 with
      | hd h' =>
        simp only [Option.some.injEq, Prod.mk.injEq] at hr
        obtain ⟨rfl, rfl⟩ := hr
        exact ⟨hd1, fun E a w Q he hr hp => k1 E a w _ he hr fun a2 w2 hr2 => hp a2 w2 hr2⟩
      | e e1 =>
        cases e1 <;> first | (cases hr; done) | (simp only [Option.some.injEq, Prod.mk.injEq] at hr; obtain ⟨rfl, rfl⟩ := hr; exact ⟨trivial, fun E a w Q he hr hp => k1 E a w _ he hr fun a2 w2 hr2 => hp a2 w2 hr2⟩)
  | _ =>
    intro b h s s' x h1 h2 hr
    simp [yR] at hr
def atSc (S : FS) (h k : Nat) : Bool := TM.allT (SV.sc k) (S.at h).sl && TM.allT (AO.sc k) (S.at h).o
theorem at_sc {S : FS} {h k : Nat} (hs : atSc S h k = true) {σ σ' : Nat → D} (ha : ∀ n, n < k → σ n = σ' n) : (S.at h).si σ = (S.at h).si σ' := by
  simp only [atSc, Bool.and_eq_true] at hs
  simp only [XS.si, XS.mk.injEq, and_true]
  exact ⟨TM.mapT_congr (fun c hc => SV.sc_si ha c hc) _ hs.1, TM.mapT_congr (fun c hc => AO.sc_si ha c hc) _ hs.2⟩
theorem dv_app {l m : List D} {n : Nat} (h : n < l.length) : dv l n = dv (l ++ m) n := by
  simp only [dv]
  rw [List.getElem?_append_left h]
theorem retC_mono {Θ : Tab} {rs : List ResultVar} {Q Q' : SV → (Nat → Option AO) → Nat → Prop} (hq : ∀ r o nk, Q r o nk → Q' r o nk) {e : Exit} {s : St} (h : retC Θ rs Q e s) : retC Θ rs Q' e s := by
  unfold retC at h ⊢
  split at h
  · obtain ⟨vs, h1, h2⟩ := h; exact ⟨vs, h1, hq _ _ _ h2⟩
  · obtain ⟨vs, h1, h2⟩ := h; exact ⟨vs, h1, hq _ _ _ h2⟩
  · cases h
theorem fRun_ok {P : Program} {X : YX} {σ : Nat → D} (hX : YOk P σ X) {S : FS} {h : Nat} {s' : XS} {x : YE} (hr : fRun X S h = some (x, s')) :
    HdIn S.c x ∧ ∀ E a w Q, E.n = S.n → Rel E ((S.at h).si σ).st a w → Prem P σ S.c E s' x Q → if h = 0 then S.c.wp P Q a w else rwp P S.c h Q a w := by
  unfold fRun at hr
  by_cases hh : h = 0
  · subst hh
    simp only [Nat.beq_refl, cond_true] at hr
    obtain ⟨h1, h2⟩ := (yC_ok hX FUEL).1 _ _ _ _ _ _ _ hr
    refine ⟨h1, fun E a w Q he hrel hp => ?_⟩
    rw [if_pos rfl]
    exact h2 E a w Q he hrel hp
  · have hb : Nat.beq h 0 = false := by cases h with
      | zero => exact absurd rfl hh
      | succ n => rfl
    rw [hb] at hr
    simp only [cond_false] at hr
    cases hg : gfind S.gs h with
    | none => rw [hg] at hr; cases hr
    | some g =>
      rw [hg] at hr
      simp only at hr
      cases hl : Nat.ble h (nl S.c) with
      | false => rw [hl] at hr; cases hr
      | true =>
        rw [hl] at hr
        simp only [cond_true] at hr
        obtain ⟨h1, h2⟩ := yR_ok hX _ _ _ _ _ _ (by omega) (Nat.le_of_ble_eq_true hl) hr
        refine ⟨h1, fun E a w Q he hrel hp => ?_⟩
        rw [if_neg hh]
        refine h2 E a w Q he ?_ hp
        simp only [FS.at, hb, cond_false, hg] at hrel
        exact hrel
theorem piece {P : Program} {X : YX} (hP : YP P X) {S : FS} {R : List D → Prop} {h k0 : Nat} (hsc : atSc S h k0 = true) : ∀ (y : Y) (DS : List Eqn) (KN : List (Nat × Bool)) (l : List D), yChkT X S h y DS KN l.length = true → plainB l = true → k0 ≤ l.length →
    DSok P X.Θ (dv l) DS → (∀ e ∈ DS, e.sc l.length = true) → KNok (dv l) KN → (∀ p ∈ KN, p.1 < l.length) → y.ok P X.Θ (FAt P X.Θ S R) R l →
    ∀ E a w, E.n = S.n → E.nk = S.k0 → Rel E ((S.at h).si (dv l)).st a w →
    (if h = 0 then S.c.wp P (fun e a' w' => ∃ s', Rel E s' a' w' ∧ retC X.Θ S.rs (Qx S R) e s') a w
    else rwp P S.c h (fun e a' w' => ∃ s', Rel E s' a' w' ∧ retC X.Θ S.rs (Qx S R) e s') a w) := by
  intro y
  induction y with
  | go h' δ τ ad =>
    intro DS KN l hc hpl hk hD hDs hN hNs hok E a w hn hnk hr
    simp only [yChkT, Bool.and_eq_true] at hc
    obtain ⟨hpd, hsd, hc⟩ := hc
    have hX := hP.ok (DS := DS) (KN := KN) (dv_lf hpl) hD hN
    split at hc
    · rename_i h2 s' hrun
      simp only [Bool.and_eq_true] at hc
      obtain ⟨he, hc⟩ := hc
      have he := Nat.eq_of_beq_eq_true he
      subst he
      obtain ⟨hin, k1⟩ := fRun_ok hX hrun
      refine k1 E a w _ hn hr fun a2 w2 hr2 => ?_
      split at hc
      · rename_i g hg
        have hw := mt_ok (σ := dv l) hpd hc
        have hr3 := (XS.ads_ok ad hr2).wk (hnk ▸ hw)
        have hA := hok (plain_si hpl hpd) E a2 w2 hn hnk (by
          have hb : Nat.beq h2 0 = false := by
            have := hin.1
            cases h2 with
            | zero => omega
            | succ n => rfl
          simp only [FS.at, hb, cond_false, hg]
          exact hr3)
        rw [if_neg (by have := hin.1; omega)] at hA
        exact hA
      · cases hc
    · cases hc
  | ret δ τ =>
    intro DS KN l hc hpl hk hD hDs hN hNs hok E a w hn hnk hr
    simp only [yChkT, Bool.and_eq_true] at hc
    obtain ⟨hpd, hsd, hc⟩ := hc
    have hX := hP.ok (DS := DS) (KN := KN) (dv_lf hpl) hD hN
    split at hc
    · rename_i x s' hrun
      simp only [Bool.and_eq_true] at hc
      obtain ⟨hx, hc⟩ := hc
      have hx : x = .normal ∨ x = .ret := by cases x <;> simp_all
      obtain ⟨hin, k1⟩ := fRun_ok hX hrun
      refine k1 E a w _ hn hr fun a2 w2 hr2 => ?_
      have hr3 : Rel E ((S.tm X.Θ s').si (dv l)).st a2 w2 := by
        unfold FS.tm
        cases S.fz with
        | true => exact XS.tameY_ok (dv_lf hpl) hr2
        | false => exact hr2
      split at hc
      · rename_i vs s3 hres
        simp only [Bool.and_eq_true] at hc
        obtain ⟨h1, h2, h3⟩ := hc
        have hres2 := xRes_si (σ := dv l) (dv_lf hpl) hres
        obtain ⟨s4, hr4, hq⟩ := ret_res (P := P) hx hres2 hr3
        refine ⟨s4, hr4, retC_mono ?_ hq⟩
        rintro r o nk ⟨rfl, rfl, rfl⟩
        have hw := mt_ok (σ := dv l) hpd h3
        refine ⟨δ.map (D.si (dv l)), tn τ, hok, ?_, hw.ob, SV.ltb_ok h2⟩
        rw [← tupOf_si, ← SV.eqb_ok h1, ← ren_si, SV.si_si (dv_ns hpd), dv_si]
      · cases hc
    · cases hc
  | eq e j t ih =>
    intro DS KN l hc hpl hk hD hDs hN hNs hok E a w hn hnk hr
    simp only [yChkT, Bool.and_eq_true] at hc
    obtain ⟨hse, hc⟩ := hc
    obtain ⟨new, hj, hpn, heq, hok⟩ := hok
    have hag : ∀ n, n < l.length → dv l n = dv (l ++ new) n := fun n hn => dv_app hn
    have hlen : (l ++ new).length = l.length + j := by rw [List.length_append, hj]
    have hpl2 : plainB (l ++ new) = true := by simp only [plainB, List.all_append, Bool.and_eq_true] at hpl hpn ⊢; exact ⟨hpl, hpn⟩
    refine ih (e :: DS) KN (l ++ new) (by rw [hlen]; exact hc) hpl2 (by rw [hlen]; omega) (fun e2 he2 => ?_) (fun e2 he2 => ?_) (fun p hp => ?_) (fun p hp => ?_) hok E a w hn hnk ?_
    · rcases List.mem_cons.1 he2 with rfl | he2
      · exact heq
      · exact Eqn.sc_holds hag (hDs e2 he2) (hD e2 he2)
    · rcases List.mem_cons.1 he2 with rfl | he2
      · rw [hlen]; exact hse
      · rw [hlen]; exact Eqn.sc_mono (Nat.le_add_right _ _) (hDs e2 he2)
    · rw [← hag _ (hNs p hp)]; exact hN p hp
    · have := hNs p hp; rw [hlen]; omega
    · rw [← at_sc hsc (fun n hn2 => hag n (by omega))]; exact hr
  | ite n a0 b0 iha ihb =>
    intro DS KN l hc hpl hk hD hDs hN hNs hok E a w hn hnk hr
    simp only [yChkT, Bool.and_eq_true] at hc
    obtain ⟨hlt, ha, hb⟩ := hc
    obtain ⟨c, h1, h2, h3⟩ := hok
    cases c with
    | true =>
      refine iha DS ((n, true) :: KN) l ha hpl hk hD hDs (fun p hp => ?_) (fun p hp => ?_) (h2 rfl) E a w hn hnk hr
      · rcases List.mem_cons.1 hp with rfl | hp
        · exact h1
        · exact hN p hp
      · rcases List.mem_cons.1 hp with rfl | hp
        · exact blt_iff.1 hlt
        · exact hNs p hp
    | false =>
      refine ihb DS ((n, false) :: KN) l hb hpl hk hD hDs (fun p hp => ?_) (fun p hp => ?_) (h3 rfl) E a w hn hnk hr
      · rcases List.mem_cons.1 hp with rfl | hp
        · exact h1
        · exact hN p hp
      · rcases List.mem_cons.1 hp with rfl | hp
        · exact blt_iff.1 hlt
        · exact hNs p hp
def pChk (X : YX) (S : FS) (h : Nat) (y : Y) (k : Nat) : Bool := atSc S h k && yChkT X S h y [] [] k
theorem FAt.of {P : Program} {X : YX} (hP : YP P X) {S : FS} {R : List D → Prop} {h k : Nat} {y : Y} (hc : pChk X S h y k = true) {l : List D} (hl : l.length = k) (hok : y.ok P X.Θ (FAt P X.Θ S R) R l) : FAt P X.Θ S R h l := by
  simp only [pChk, Bool.and_eq_true] at hc
  subst hl
  intro hpl E a w hn hnk hr
  exact piece hP hc.1 y [] [] l hc.2 hpl (Nat.le_refl _) (fun e he => by cases he) (fun e he => by cases he) (fun e he => by cases he) (fun e he => by cases he) hok E a w hn hnk hr
theorem FAt.spec {P : Program} {Θ : Tab} (hΘ : TabOk P Θ) {S : FS} {R : List D → Prop} {f : FuncId} (hf : FnOkC P f S.n S.rs S.c) (hn : S.args.length ≤ S.n) {l : List D} (hl : plainB l = true) (h : FAt P Θ S R 0 l) :
    Spec P f (S.args.map (SV.si (dv l))) (osi (dv l) (ofL S.o0 .e).get) S.k0 fun r o nk => ∃ l', R l' ∧ r = S.xr.si (dv l') ∧ o = osi (dv l') (ofL S.xg.o .e).get ∧ nk = S.xg.nk := by
  refine Spec.wk (Q := Qx S R) ?_ ?_
  · refine Spec.of_bodyC hΘ hf (by rw [List.length_map]; exact hn) ?_
    have e0 : ({ sl := slots (S.args.map (SV.si (dv l))), o := osi (dv l) (ofL S.o0 .e).get, nk := S.k0 } : St) = ((S.at 0).si (dv l)).st := by
      simp only [FS.at, Nat.beq_refl, cond_true, XS.st, XS.si, St.mk.injEq, and_true, mapT_get]
      funext u
      rw [TM.get_mapT, TM.get_ofList]
      simp only [slots, List.getD_eq_getElem?_getD, List.getElem?_map]
    rw [e0]
    intro E a w hen hnk hr
    have := h hl E a w hen hnk hr
    rw [if_pos rfl] at this
    exact this
  · rintro r o nk ⟨l', τ, hR, rfl, hw, hlt⟩
    exact ⟨τ, _, _, _, hw, rfl, hlt, l', hR, rfl, XS.si_o _ _, rfl⟩
section
variable {P:Program} {Θ:Tab} {n k0:Nat} {Q:Exit→St→Prop}
end
section
variable {P:Program} {Θ:Tab} {ops:Array Oper} {K:St→Prop} {r:List Oper} {sl:Nat→SV} {d ty j lo m nk nk' i e:Nat} {o o':Nat→Option AO} {op:Op} {pos:String} {af:Array Edge} {want c:Bool} {v:SV} {L:List Ob} {ks:List KdP} {al:List Al}
end
section
variable {P:Program} {Θ:Tab} {K:SV→(Nat→Option AO)→Nat→Prop} {sl:Nat→SV} {o:Nat→Option AO} {nk:Nat} {x y:Operand} {t e:Nat}
end
def MSpec (P:Program) (f:FuncId) (args:Nat→List SV) (cs cs':List SV) (r:SV):Prop:=
 ∀ (o:Nat→Option AO) (nk k:Nat),o k=some (.box cs)→Spec P f (args k) o nk fun r' o' nk'=>r'=r∧o'=upd o k (some (.box cs'))∧nk'=nk
theorem Spec.pureM {P:Program} {f:FuncId} {args:List SV} {o:Nat→Option AO} {nk k:Nat} {r:SV} {cs cs':List SV} (hM:o k=some (.box cs)) (hcs:∀ m,SV.lts m cs') (hr:∀ m,r.lt m) (hid:r.ren id=r)
    (h:k < nk→Spec P f args o nk fun r' o' nk'=>r'=r∧nk≤nk'∧o' k=some (.box cs')∧∀ t,t < nk∧t≠k→o' t=o t):Spec P f args o nk fun r' o' nk'=>r'=r∧o'=upd o k (some (.box cs'))∧nk'=nk:=by
  intro w S γ vs h1 h2 h3 h4;have hkn:k < nk:=h1.o_lt k _ hM;refine (h hkn w S γ vs h1 h2 h3 h4).mono ?_;rintro v w' ⟨r',o',nk',S',γ',⟨rfl,hnk,hok,ho⟩,hs,ht,hsr,hl⟩;have hk:Wko nk id o' (upd o k (some (.box cs'))) nk:=by
    refine ⟨Nat.le_refl _,fun t x hx=>?_,fun t t' x x' _ _ e=>e,fun _ _ _ _=>rfl⟩;by_cases htk:t=k
    · subst htk;rw [upd_same] at hx;simp only [Option.some.injEq] at hx;subst hx;exact ⟨hkn,by rw [AO.ren_id];exact hok,hcs nk⟩
    · rw [upd_ne _ _ htk] at hx;have hlt:=h1.o_lt t x hx;refine ⟨hlt,by rw [AO.ren_id];show o' t=some x;rw [ho t ⟨hlt,htk⟩,hx],?_⟩;cases x with
      | box cs=>exact (h1.box t cs hx).2
      | row e z xs=>trivial
      | raw ob=>trivial
  exact ⟨r',_,nk,S',γ' ∘ id,⟨rfl,rfl,rfl⟩,hk.sto hs,hk.tr ht,hsr.of_ren (fun t x hx=>(hk.o t x hx).2.1) r' hid,hr _⟩
theorem MSpec.of {P:Program} {f:FuncId} {n:Nat} {ts:List Nat} {c:Code} {args:Nat→List SV} {cs cs':List SV} {r:SV} (hf:FnOk P f n ts c) (hn:∀ k,(args k).length≤n) (hcs:∀ m,SV.lts m cs') (hr:∀ m,r.lt m) (hid:r.ren id=r)
    (h:∀ o nk k,k < nk→o k=some (.box cs)→WP P n nk c ⟨slots (args k),o,nk⟩ (retQ ts fun r' o' nk'=>r'=r∧nk≤nk'∧o' k=some (.box cs')∧∀ t,t < nk∧t≠k→o' t=o t)):MSpec P f args cs cs' r:=
  fun o nk k hM=>Spec.pureM hM hcs hr hid fun hk=>Spec.of_body hf (hn k) (h o nk k hk hM)
section
variable {P:Program} {Θ:Tab} {K:SV→(Nat→Option AO)→Nat→Prop} {sl:Nat→SV} {o:Nat→Option AO} {nk:Nat} {x y:Operand} {t:Nat}
end
theorem Spec.weak {P:Program} {f:FuncId} {args:List SV} {o:Nat→Option AO} {nk:Nat} {x:D} {Q:(Nat→Option AO)→Nat→Prop} (h:Spec P f args o nk fun r o' nk'=>(∃ x',r=.d x'∧D.le x' x)∧Q o' nk'):Spec P f args o nk fun r o' nk'=>r=.d x∧Q o' nk':=by
 intro w S γ vs h1 h2 h3 h4;refine (h w S γ vs h1 h2 h3 h4).mono ?_;rintro v w' ⟨r',o',nk',S',γ',⟨⟨x',rfl,hle⟩,hq⟩,hs,ht,hsr,hl⟩;refine ⟨.d x,o',nk',S',γ',⟨rfl,hq⟩,hs,ht,?_,trivial⟩;cases hsr with
 | d _ _ hr=>exact .d _ _ (hr.le hle)
theorem WP.frzC4 {P:Program} {n k0:Nat} {Q:Exit→St→Prop} {c:Code} {sl:Nat→SV} {o:Nat→Option AO} {nk:Nat} (l:List (Nat×SV)) (k:Nat) {b e z:Nat} {pre post:List SV} {x:SV} {q:Option Nat} {xs:List D} (hb:o b=some (.box (pre++x :: post))) (hx:dstOf o e z x=some (q,xs)) (hkb:k≤b)
    (hp:∀ t,q=some t→pre.map (SV.frz t (.sl z xs))=pre∧post.map (SV.frz t (.sl z xs))=post) (hl:∀ t,q=some t→∀ p∈l,(sl p.1).frz t (.sl z xs)=p.2) (hl0:q=none→∀ p∈l,sl p.1=p.2)
    (h:∀ o1,o1 b=some (.box (pre ++ .d (.sl z xs) :: post))→(∀ u,u < k→q≠some u→o1 u=o u)→(∀ u cs,u≠b→o u=some (.box cs)→(∀ t,q=some t→cs.map (SV.frz t (.sl z xs))=cs)→o1 u=some (.box cs))→(∀ u e z xs,q≠some u→o u=some (.row e z xs)→o1 u=some (.row e z xs))→WP P n k0 c ⟨al l,o1,nk⟩ Q):WP P n k0 c ⟨sl,o,nk⟩ Q:=by
  cases q with
  | none=>
    have hn:x=.d .nil∧xs=[]:=by
      unfold dstOf at hx;split at hx <;> first | cases hx | skip
      · exact ⟨rfl,rfl⟩
      · split at hx
        · split at hx <;> cases hx
        · cases hx
    obtain ⟨rfl,rfl⟩:=hn;have les_refl:∀ ds:List SV,SV.les ds ds:=fun ds=>by
      induction ds with
      | nil=>trivial
      | cons d ds ih=>
        refine ⟨?_,ih⟩;cases d <;> first | exact D.le_refl _ | rfl
    have hle:SV.les (pre ++ .d .nil :: post) (pre ++ .d (.sl z []) :: post):=by
      clear hb hp hl h
      induction pre with
      | nil=>exact ⟨rfl,les_refl post⟩
      | cons d ds ih=>
        refine ⟨?_,ih⟩;cases d <;> first | exact D.le_refl _ | rfl
    refine WP.le (Le.al (hl0 rfl)) (WP.leB _ hb hle fun o1 h1 h2=>h o1 h1 (fun u hu _=>h2 u (by omega)) (fun u cs hu hcs _=>(h2 u hu).trans hcs) fun u e z xs _ hu=>(h2 u (fun e=>by rw [e,hb] at hu;cases hu)).trans hu)
  | some t=>
    have hn:x=.row t∧o t=some (.row e z xs):=by
      unfold dstOf at hx;split at hx <;> first | cases hx | skip
      split at hx
      · split at hx
        · rename_i h1 h2;simp only [Option.some.injEq,Prod.mk.injEq] at hx;obtain ⟨rfl,rfl⟩:=hx;obtain ⟨rfl,rfl⟩:=h2;exact ⟨rfl,h1⟩
        · cases hx
      · cases hx
    obtain ⟨rfl,ht⟩:=hn;have hbt:b≠t:=fun e=>by rw [e,ht] at hb;cases hb
    refine WP.frzL l k ht (hl t rfl) fun o1 h1 h2=>h o1 ?_ (fun u hu hq=>h1 u (fun e=>hq (by rw [e])) hu) (fun u cs hu hcs hm=>?_) fun u e0 z0 xs0 hq hu=>?_;rotate_left
    · have hut:u≠t:=fun e=>by rw [e,ht] at hcs;cases hcs
      rcases Nat.lt_or_ge u k with hk | hk
      · rw [h1 u hut hk,hcs]
      · rw [h2 u hut hk,hcs];simp only [Option.map_some,AO.frz,hm t rfl]
    · have hut:u≠t:=fun e=>hq (by rw [e]);rcases Nat.lt_or_ge u k with hk | hk
      · rw [h1 u hut hk,hu]
      · rw [h2 u hut hk,hu];rfl
    rw [h2 b hbt hkb,hb];simp only [Option.map_some,AO.frz,List.map_append,List.map_cons,(hp t rfl).1,(hp t rfl).2,SV.frz,if_true]
theorem dst_two {o:Nat→Option AO} {e z:Nat} {c:SV} {q:Option Nat} {xs:List D} (h:dstOf o e z c=some (q,xs)):(c=.d .nil∧q=none∧xs=[])∨∃ t,c=.row t∧q=some t∧o t=some (.row e z xs):=by
 unfold dstOf at h;split at h
 ·simp only [Option.some.injEq,Prod.mk.injEq] at h;exact .inl ⟨rfl,h.1.symm,h.2.symm⟩
 ·split at h
  ·split at h
   ·rename_i h1 h2;simp only [Option.some.injEq,Prod.mk.injEq] at h;obtain ⟨rfl,rfl⟩:=h;obtain ⟨rfl,rfl⟩:=h2;exact .inr ⟨_,rfl,rfl,h1⟩
   ·cases h
  ·cases h
 ·cases h
theorem WP.frzC2 {P:Program} {n k0:Nat} {Q:Exit→St→Prop} {c:Code} {sl:Nat→SV} {o:Nat→Option AO} {nk:Nat} (l:List (Nat×SV)) (k:Nat) {b e z e2 z2:Nat} {pre post:List SV} {x y:SV} {q q2:Option Nat} {xs ys:List D} (hb:o b=some (.box (pre++x :: y :: post))) (hx:dstOf o e z x=some (q,xs)) (hy:dstOf o e2 z2 y=some (q2,ys)) (hne:∀ t,q=some t→q2≠some t) (hkb:k≤b)
    (hp:∀ t d,pre.map (SV.frz t d)=pre∧post.map (SV.frz t d)=post) (hl:∀ t d,∀ p∈l,(sl p.1).frz t d=p.2∧p.2.frz t d=p.2) (hl0:∀ p∈l,sl p.1=p.2) (hal:∀ p∈l,al l p.1=p.2)
    (h:∀ o1,o1 b=some (.box (pre ++ .d (.sl z xs) :: .d (.sl z2 ys) :: post))→(∀ u,u < k→q≠some u→q2≠some u→o1 u=o u)→(∀ u cs,u≠b→o u=some (.box cs)→(∀ t d,cs.map (SV.frz t d)=cs)→o1 u=some (.box cs))→WP P n k0 c ⟨al l,o1,nk⟩ Q):WP P n k0 c ⟨sl,o,nk⟩ Q:=by
  have hyf:∀ t d,q=some t→y.frz t d=y:=fun t d ht=>by
    rcases dst_two hy with ⟨rfl,_,_⟩ | ⟨t2,rfl,h2,_⟩
    · rfl
    · simp only [SV.frz];rw [if_neg (fun e=>hne t ht (by rw [h2,e]))]
  refine WP.frzC4 (post:=y :: post) l k hb hx hkb (fun t ht=>⟨(hp t _).1,by simp only [List.map_cons,hyf t _ ht,(hp t _).2]⟩) (fun t _ p hpl=>(hl t _ p hpl).1) (fun _=>hl0) fun o1 h1 h2 h3 h4=>?_;have hy1:dstOf o1 e2 z2 y=some (q2,ys):=by
    rcases dst_two hy with ⟨rfl,rfl,rfl⟩ | ⟨t2,rfl,h5,h6⟩
    · rfl
    · have h7:=h4 t2 _ _ _ (fun e=>hne t2 e h5) h6;simp only [dstOf,h7,and_self,if_true,h5]
  have e:pre++SV.d (.sl z xs) :: y :: post=(pre++[SV.d (.sl z xs)])++y :: post:=by simp
  rw [e] at h1;refine WP.frzC4 (pre:=pre++[.d (.sl z xs)]) (post:=post) l k h1 hy1 hkb (fun t ht=>⟨by simp only [List.map_append,(hp t _).1,List.map_cons,List.map_nil,SV.frz],(hp t _).2⟩) (fun t _ p hpl=>by rw [hal p hpl];exact (hl t _ p hpl).2) (fun _=>hal) fun o2 g1 g2 g3 _=>?_;refine h o2 (by rw [g1];simp) (fun u hu ha hb2=>(g2 u hu hb2).trans (h2 u hu ha)) fun u cs hu hcs hm=>g3 u cs hu (h3 u cs hu hcs fun t _=>hm t _) fun t _=>hm t _
section
variable {P : Program} {Θ : Tab} {A : Nat → List D → Prop} {R : List D → Prop} {l : List D} {t : Y} {n : Nat}
theorem dv_agr (l m : List D) : ∀ n, n < l.length → dv l n = dv (l ++ m) n := fun n h => dv_app h
theorem sc_app {x : D} {l m : List D} (h : x.sc l.length = true) : x.si (dv (l ++ m)) = x.si (dv l) := (D.sc_si (dv_agr l m) x h).symm
theorem dv_last (l : List D) (d : D) : dv (l ++ [d]) l.length = d := by simp [dv]
theorem y_eq1 {e : Eqn} {d : D} (hp : plainB [d] = true) (he : e.holds P Θ (dv (l ++ [d]))) (k : t.ok P Θ A R (l ++ [d])) : (Y.eq e 1 t).ok P Θ A R l := ⟨[d], rfl, hp, he, k⟩
theorem intBin_plain {op : BinOp} {k : IntKind} {a b : Int} {r : D} (h : intBin op k a b = some r) : plainB [r] = true := by
  unfold intBin at h
  split at h <;> (try split at h) <;> first | cases h; done | (simp only [Option.some.injEq] at h; subst h; rfl)
theorem y_int {op : BinOp} {ty : TypeId} {x y : D} {k : IntKind} {a b : Int} {r : D} (hx : x.si (dv l) = .int k a) (hy : y.si (dv l) = .int k b) (hr : intBin op k a b = some r) (hs : (x.sc l.length && (y.sc l.length && (Nat.beq n l.length && !(decide (op = .shl) || decide (op = .shr))))) = true)
    (k : t.ok P Θ A R (l ++ [r])) : (Y.eq (.bin op ty x y (.v n)) 1 t).ok P Θ A R l := by
  simp only [Bool.and_eq_true, Bool.not_eq_true', Bool.or_eq_false_iff, decide_eq_false_iff_not] at hs
  obtain ⟨h1, h2, h3, h4, h5⟩ := hs
  refine y_eq1 (intBin_plain hr) ?_ k
  simp only [Eqn.holds, sc_app h1, sc_app h2, hx, hy, D.si, Nat.eq_of_beq_eq_true h3, dv_last]
  unfold xbn
  cases op <;> first | (exact absurd rfl h4) | (exact absurd rfl h5) | (simp only [if_true]; exact hr)
theorem y_not {x : D} {b : Bool} (hx : x.si (dv l) = .bool b) (hs : (x.sc l.length && Nat.beq n l.length) = true) (k : t.ok P Θ A R (l ++ [.bool (!b)])) : (Y.eq (.un .not x (.v n)) 1 t).ok P Θ A R l := by
  simp only [Bool.and_eq_true] at hs
  refine y_eq1 rfl ?_ k
  simp only [Eqn.holds, sc_app hs.1, hx, D.si, Nat.eq_of_beq_eq_true hs.2, dv_last]
  rfl
def vsF (n : Nat) : Nat → List D
  | 0 => []
  | m + 1 => .v n :: vsF (n + 1) m
theorem CQ.of {c : CQ} {σ : Nat → D} {args : List SV} {r : SV} (h : PSpec P c.f args r) (ha : c.args.map (SV.si σ) = args) (hr : c.r.si σ = r) (hd : dataR r = true) (hh : c.hout = [] ∧ c.k = 0) : c.holds P σ := by
  intro o nk _
  rw [ha]
  refine (h o nk).mono ?_
  rintro r' o' nk' ⟨rfl, rfl, rfl⟩
  refine ⟨?_, by rw [hh.1]; rfl, by rw [hh.2]; rfl⟩
  rw [hr]
  cases r' <;> simp only [dataR, Bool.false_eq_true] at hd
  · simp [SV.ren]
  · rename_i xs
    have : ∀ xs : List SV, dataL xs = true → SV.rens (nnk nk') xs = xs := by
      intro xs
      induction xs with
      | nil => intro _; rfl
      | cons c r ih =>
        intro hd
        cases c <;> simp only [dataL, Bool.false_eq_true] at hd
        simp [SV.rens, SV.ren, ih hd]
    simp [SV.ren, this xs hd]
theorem y_call {f : Nat} {args us : List SV} {hin : List (Nat × AO)} {d : D} (h : PSpec P f us (.d d)) (ha : args.map (SV.si (dv l)) = us) (hp : plainB [d] = true) (hs : (SV.scl l.length args && Nat.beq n l.length) = true) (k : t.ok P Θ A R (l ++ [d])) : (Y.eq (.call ⟨f, args, hin, .d (.v n), [], 0⟩) 1 t).ok P Θ A R l := by
  simp only [Bool.and_eq_true] at hs
  refine y_eq1 hp (CQ.of (args := us) (r := .d d) h ?_ ?_ rfl ⟨rfl, rfl⟩) k
  · show args.map (SV.si (dv (l ++ [d]))) = us
    rw [← ha, ← SV.sil_map, ← SV.sil_map]
    exact (SV.scl_si (dv_agr l [d]) _ hs.1).symm
  · show SV.d (D.si _ (.v n)) = _
    simp only [D.si, Nat.eq_of_beq_eq_true hs.2, dv_last]
theorem y_calls {f m : Nat} {args us : List SV} {hin : List (Nat × AO)} {r r' : SV} {ds : List D} (h : PSpec P f us r') (ha : args.map (SV.si (dv l)) = us) (hr : r.si (dv (l ++ ds)) = r') (hd : dataR r' = true) (hp : plainB ds = true) (hs : (SV.scl l.length args && Nat.beq ds.length m) = true) (k : t.ok P Θ A R (l ++ ds)) :
    (Y.eq (.call ⟨f, args, hin, r, [], 0⟩) m t).ok P Θ A R l := by
  simp only [Bool.and_eq_true] at hs
  refine ⟨ds, Nat.eq_of_beq_eq_true hs.2, hp, CQ.of (args := us) (r := r') h ?_ hr hd ⟨rfl, rfl⟩, k⟩
  show args.map (SV.si (dv (l ++ ds))) = us
  rw [← ha, ← SV.sil_map, ← SV.sil_map]
  exact (SV.scl_si (dv_agr l ds) _ hs.1).symm
theorem y_if {a b : Y} {c : Bool} (hc : dv l n = .bool c) (ht : c = true → a.ok P Θ A R l) (hf : c = false → b.ok P Θ A R l) : (Y.ite n a b).ok P Θ A R l := ⟨c, hc, ht, hf⟩
theorem y_ret {δ : List D} {τ : List Nat} (h : R (δ.map (D.si (dv l)))) : (Y.ret δ τ).ok P Θ A R l := h
end
def SV.le2 : SV → SV → Prop
  | .d x, .d y => D.le x y
  | .tup xs, .tup ys => SV.les xs ys
  | a, b => a = b
theorem SR.le2 {w : World} {S : Nat → Prop} {γ : Nat → Value} {o : Nat → Option AO} {a b : SV} {v : Value} (h : SR w S γ o a v) (hl : a.le2 b) : SR w S γ o b v := by
  unfold SV.le2 at hl
  split at hl
  · exact h.le (a := .d _) (b := .d _) hl
  · cases h with
    | tup xs us hv hr =>
      refine .tup _ us (by rw [hv, SV.les_length hl]) fun i c u hc hu => ?_
      obtain ⟨x, hx, hxy⟩ := SV.les_get hl i c hc
      exact (hr i x u hx hu).le hxy
  · exact hl ▸ h
theorem SV.le2_lt {n : Nat} {a b : SV} (h : a.le2 b) (hl : a.lt n) : b.lt n := by
  unfold SV.le2 at h
  split at h
  · trivial
  · refine lts_of fun i c hc => ?_
    obtain ⟨x, hx, hxy⟩ := SV.les_get h i c hc
    exact SV.le_lt hxy (lts_get (by exact hl) i x hx)
  · exact h ▸ hl
theorem Spec.weak2 {P : Program} {f : FuncId} {args : List SV} {o : Nat → Option AO} {nk : Nat} {r : SV} (h : Spec P f args o nk fun r' _ _ => r'.le2 r) : Spec P f args o nk fun r' _ _ => r' = r := fun w S γ vs h1 h2 h3 h4 => by
  refine (h w S γ vs h1 h2 h3 h4).mono ?_
  rintro v w' ⟨r', o', nk', S', γ', hl, hs, ht, hr, hlt⟩
  exact ⟨r, o', nk', S', γ', rfl, hs, ht, hr.le2 hl, SV.le2_lt hl hlt⟩
theorem SV.le_refl (x : SV) : x.le x := by
  cases x <;> first | exact D.le_refl _ | exact rfl
theorem SV.les_refl : ∀ xs : List SV, SV.les xs xs
  | [] => trivial
  | x :: r => ⟨SV.le_refl x, SV.les_refl r⟩
theorem SV.le2_refl (x : SV) : x.le2 x := by
  cases x <;> first | exact D.le_refl _ | exact SV.les_refl _ | exact rfl
theorem SV.le2_of {x y : SV} (h : x = y) : x.le2 y := h ▸ SV.le2_refl x
theorem PSpec.ofY {P : Program} {Θ : Tab} (hΘ : TabOk P Θ) {S : FS} {f : FuncId} (hf : FnOkC P f S.n S.rs S.c) (hn : S.args.length ≤ S.n) (hz : S.k0 = 0 ∧ S.o0 = []) {l : List D} (hl : plainB l = true) {us : List SV} {r : SV} (hu : S.args.map (SV.si (dv l)) = us) (ha : dataL us = true) (hd : dataR r = true)
    (h : FAt P Θ S (fun l' => (S.xr.si (dv l')).le2 r) 0 l) : PSpec P f us r := by
  refine Spec.closeR ha hd ?_
  have := FAt.spec hΘ hf hn hl h
  rw [hz.1, hz.2, hu] at this
  have e : osi (dv l) (ofL [] (TM.e : TM AO)).get = fun _ => none := by funext u; rfl
  rw [e] at this
  exact Spec.weak2 (this.mono fun r' o nk ⟨l', h1, h2, _⟩ => h2 ▸ h1)
def WSpec (P:Program) (f:FuncId) (args:SV→List SV) (e z:Nat) (xs xs':List D):Prop:=
 ∀ (o:Nat→Option AO) (nk:Nat) (x:SV) (q:Option Nat),dstOf o e z x=some (q,xs)→Spec P f (args x) o nk fun r o' nk'=>r=.row nk∧o'=upd (killo o q) nk (some (.row e z xs'))∧nk'=nk+1
theorem wk_newK {o:Nat→Option AO} {nk:Nat} {x:AO} (hx:∀ m,x.lt m) {o':Nat→Option AO} {q:Nat} (h1:nk≤q) (h3:o' q=some x) (h4:∀ t y,o t=some y→o' t=some y)
    (hlt:∀ t y,o t=some y→t < nk∧y.lt nk) (hr:∀ τ,x.ren τ=x) (hid:∀ t y,o t=some y→∀ τ:Nat→Nat,(∀ u,u < nk→τ u=u)→y.ren τ=y):Wko nk (fun t=>if t=nk then q else t) o' (upd o nk (some x)) (nk+1):=by
  refine ⟨by omega,fun t y hy=>?_,fun t t' y y' hy hy' e=>?_,fun t y ht _=>if_neg (by omega)⟩
  · unfold upd at hy;split at hy
    · rename_i he;subst he;injection hy with hy;subst hy;exact ⟨by omega,by simp only [if_true,h3,hr],hx _⟩
    · rename_i hne;obtain ⟨h5,h6⟩:=hlt t y hy;refine ⟨by omega,?_,?_⟩
      · rw [if_neg hne,h4 t y hy,hid t y hy _ fun u hu=>if_neg (by omega)]
      · cases y with
        | box cs=>exact SV.lts_mono (by omega) h6
        | row=>trivial
        | raw=>trivial
  · have key:∀ t y,upd o nk (some x) t=some y→t=nk∨t < nk:=fun t y hy=>by
      unfold upd at hy;split at hy
      · rename_i he;exact .inl he
      · exact .inr (hlt t y hy).1
    have k1:=key t y hy;have k2:=key t' y' hy';by_cases ht:t=nk
    · by_cases ht':t'=nk
      · rw [ht,ht']
      · rw [if_pos ht,if_neg ht'] at e;omega
    · by_cases ht':t'=nk
      · rw [if_neg ht,if_pos ht'] at e;omega
      · rw [if_neg ht,if_neg ht'] at e;exact e
theorem Spec.newRowK {P:Program} {f:FuncId} {args:List SV} {o:Nat→Option AO} {nk:Nat} {q:Option Nat} {e z:Nat} {xs:List D}
    (h:Spec P f args o nk fun r o' nk'=>∃ p,r=.row p∧nk≤p∧p < nk'∧o' p=some (.row e z xs)∧∀ t,t < nk∧q≠some t→o' t=o t) :
    Spec P f args o nk fun r o' nk'=>r=.row nk∧o'=upd (killo o q) nk (some (.row e z xs))∧nk'=nk+1:=by
  intro w S γ vs h1 h2 h3 h4;refine (h w S γ vs h1 h2 h3 h4).mono ?_;rintro v w' ⟨r,o',nk',S',γ',⟨p,rfl,k1,k2,k3,k4⟩,hs,ht,hr,hl⟩;have hlt:∀ t y,killo o q t=some y→t < nk∧y.lt nk:=fun t y hy=>by
    have hy:=(killo_some hy).1;refine ⟨h1.o_lt t y hy,?_⟩;cases y with
    | box cs=>exact (h1.box t cs hy).2
    | row=>trivial
    | raw=>trivial
  have hid:∀ t y,killo o q t=some y→∀ τ:Nat→Nat,(∀ u,u < nk→τ u=u)→y.ren τ=y:=fun t y hy τ hτ=>by
    have hy:=(killo_some hy).1;cases y with
    | box cs=>simp only [AO.ren];rw [SV.rens_lt hτ (h1.box t cs hy).2]
    | row=>rfl
    | raw=>rfl
  have hk:Wko nk (fun t=>if t=nk then p else t) o' (upd (killo o q) nk (some (.row e z xs))) (nk+1):=wk_newK (x:=.row e z xs) (fun _=>trivial) k1 k3 (fun t y hy=>by rw [k4 t ⟨(hlt t y hy).1,(killo_some hy).2⟩];exact (killo_some hy).1) hlt (fun _=>rfl) hid;refine ⟨.row nk,_,_,S',γ' ∘ _,⟨rfl,rfl,rfl⟩,hk.sto hs,hk.tr ht,hr.of_ren (fun t x hx=>(hk.o t x hx).2.1) (.row nk) ?_,Nat.lt_succ_self _⟩;simp [SV.ren]
theorem dst_lt {w:World} {S:Nat→Prop} {γ:Nat→Value} {o:Nat→Option AO} {nk e z:Nat} {x:SV} {q:Option Nat} {xs:List D} (h:Sto w S γ o nk) (hd:dstOf o e z x=some (q,xs)):∀ t,q=some t→t < nk:=fun t ht=>by
 rcases dst_two hd with ⟨_,rfl,_⟩ | ⟨t2,_,rfl,h2⟩
 ·cases ht
 ·cases ht;exact h.o_lt _ _ h2
theorem WSpec.of {P:Program} {f:FuncId} {n:Nat} {ts:List Nat} {c:Code} {args:SV→List SV} {e z:Nat} {xs xs':List D} (hf:FnOk P f n ts c) (hn:∀ x,(args x).length≤n)
    (h:∀ o nk x q,dstOf o e z x=some (q,xs)→(∀ t,q=some t→t < nk)→WP P n nk c ⟨slots (args x),o,nk⟩ (retQ ts fun r o' nk'=>∃ p,r=.row p∧nk≤p∧p < nk'∧o' p=some (.row e z xs')∧∀ t,t < nk∧q≠some t→o' t=o t)):WSpec P f args e z xs xs':=
  fun o nk x q hd=>Spec.newRowK fun w S γ vs h1 h2 h3 h4=>Spec.of_body hf (hn x) (h o nk x q hd (dst_lt h1 hd)) w S γ vs h1 h2 h3 h4
theorem rrow_okx {ts:List Nat} {sl:Nat→SV} {o o0:Nat→Option AO} {nk nk0 q e z:Nat} {xs xs':List D} (h1:resOf ts ⟨sl,o,nk⟩=.row q) (h2:nk0≤q) (h3:q < nk) (h5:o q=some (.row e z xs)) (h4:∀ t,t < nk0→o t=o0 t) (hx:xs=xs') :
 retQ ts (fun r o' nk'=>∃ q,r=.row q∧nk0≤q∧q < nk'∧o' q=some (.row e z xs')∧∀ t,t < nk0→o' t=o0 t) .ret ⟨sl,o,nk⟩:=⟨q,h1,h2,h3,hx ▸ h5,h4⟩
section
variable {P:Program} {Θ:Tab} {K:SV→(Nat→Option AO)→Nat→Prop} {sl:Nat→SV} {o:Nat→Option AO} {nk:Nat}
variable {x y:Operand} {t e:Nat}
end
section
variable {P:Program} {Θ:Tab} {ops:Array Oper} {K:St→Prop} {r:List Oper} {sl:Nat→SV} {d ty j lo m nk nk':Nat} {o o':Nat→Option AO} {op:Op} {pos:String} {af:Array Edge} {want c:Bool} {v:SV} {L:List Ob} {ks:List Kd}
end
section
variable {P:Program} {Θ:Tab} {n k0:Nat} {Q:Exit→St→Prop}
end
section
variable {P:Program} {Θ:Tab} {ops:Array Oper} {K:St→Prop} {r:List Oper} {sl:Nat→SV} {d ty j nk:Nat} {o:Nat→Option AO} {op:Op} {pos:String} {af:Array Edge} {want:Bool}
end
def tl:List (Nat×TI):=[
 (1,{ k:=.fn,sz:=1,bys:=8,z:=some [.nilk 1] }),
 (2,{ k:=.int .i64,sz:=1,bys:=8,z:=some [.int .i64 0] }),
 (3,{ k:=.int .i64,sz:=1,bys:=8,z:=some [.int .i64 0] }),
 (4,{ k:=.bool,sz:=1,bys:=1,z:=some [.bool false] }),
 (5,{ k:=.int .u8,sz:=1,bys:=1,z:=some [.int .u8 0] }),
 (9,{ k:=.str,sz:=1,bys:=16,z:=some [.str []] }),
 (21,{ k:=.int .i32,sz:=1,bys:=4,z:=some [.int .i32 0] }),
 (22,{ k:=.slice 9,sz:=1,bys:=24,z:=some [.nil] }),
 (24,{ k:=.struct [(0,9),(1,22),(2,3)],sz:=3,bys:=48,z:=some [.str [],.nil,.int .i64 0] }),
 (25,{ k:=.slice 27,sz:=1,bys:=24,z:=some [.nil] }),
 (27,{ k:=.struct [(0,3),(1,3),(2,9),(3,25),(4,22)],sz:=5,bys:=80,z:=some [.int .i64 0,.int .i64 0,.str [],.nil,.nil] }),
 (28,{ k:=.slice 46,sz:=1,bys:=24,z:=some [.nil] }),
 (30,{ k:=.struct [(0,3),(1,3),(2,9),(3,9),(4,27),(9,27),(14,28),(15,3),(16,3)],sz:=17,bys:=248,z:=some [.int .i64 0,.int .i64 0,.str [],.str [],.int .i64 0,.int .i64 0,.str [],.nil,.nil,.int .i64 0,.int .i64 0,.str [],.nil,.nil,.nil,.int .i64 0,.int .i64 0] }),
 (34,{ k:=.fn,sz:=1,bys:=8,z:=some [.nilk 1] }),
 (35,{ k:=.int .i64,sz:=1,bys:=8,z:=some [.int .i64 0] }),
 (38,{ k:=.fn,sz:=1,bys:=8,z:=some [.nilk 1] }),
 (44,{ k:=.slice 30,sz:=1,bys:=24,z:=some [.nil] }),
 (46,{ k:=.struct [(0,3),(1,22),(2,27),(7,3)],sz:=8,bys:=120,z:=some [.int .i64 0,.nil,.int .i64 0,.int .i64 0,.str [],.nil,.nil,.int .i64 0] }),
 (49,{ k:=.slice 5,sz:=1,bys:=24,z:=some [.nil] }),
 (51,{ k:=.ptr 73,sz:=1,bys:=8,z:=some [.nilp] }),
 (57,{ k:=.fn,sz:=1,bys:=8,z:=some [.nilk 1] }),
 (64,{ k:=.slice 3,sz:=1,bys:=24,z:=some [.nil] }),
 (65,{ k:=.fn,sz:=1,bys:=8,z:=some [.nilk 1] }),
 (73,{ k:=.struct [(0,49),(1,4)],sz:=2,bys:=32,z:=some [.nil,.bool false] }),
 (75,{ k:=.fn,sz:=1,bys:=8,z:=some [.nilk 1] }),
 (94,{ k:=.int .u64,sz:=1,bys:=8,z:=some [.int .u64 0] }),
 (102,{ k:=.map 9 4,sz:=1,bys:=8,z:=some [.nilk 0] }),
 (106,{ k:=.fn,sz:=1,bys:=8,z:=some [.nilk 1] }),
 (128,{ k:=.arr 256 4,sz:=256,bys:=256,z:=some (List.replicate 256 (.bool false)) }),
 (138,{ k:=.int .u32,sz:=1,bys:=4,z:=some [.int .u32 0] })]
def Θ:Tab:=fun t=>(tl.find? fun p=>Nat.beq p.1 t).map (·.2)
theorem th3:Θ 3=some { k:=.int .i64,sz:=1,bys:=8,z:=some [.int .i64 0] }:=rfl
theorem th4:Θ 4=some { k:=.bool,sz:=1,bys:=1,z:=some [.bool false] }:=rfl
theorem th5:Θ 5=some { k:=.int .u8,sz:=1,bys:=1,z:=some [.int .u8 0] }:=rfl
theorem th9:Θ 9=some { k:=.str,sz:=1,bys:=16,z:=some [.str []] }:=rfl
theorem th21:Θ 21=some { k:=.int .i32,sz:=1,bys:=4,z:=some [.int .i32 0] }:=rfl
theorem th22:Θ 22=some { k:=.slice 9,sz:=1,bys:=24,z:=some [.nil] }:=rfl
theorem th25:Θ 25=some { k:=.slice 27,sz:=1,bys:=24,z:=some [.nil] }:=rfl
theorem th27:Θ 27=some { k:=.struct [(0,3),(1,3),(2,9),(3,25),(4,22)],sz:=5,bys:=80,z:=some [.int .i64 0,.int .i64 0,.str [],.nil,.nil] }:=rfl
theorem th28:Θ 28=some { k:=.slice 46,sz:=1,bys:=24,z:=some [.nil] }:=rfl
theorem th46:Θ 46=some { k:=.struct [(0,3),(1,22),(2,27),(7,3)],sz:=8,bys:=120,z:=some [.int .i64 0,.nil,.int .i64 0,.int .i64 0,.str [],.nil,.nil,.int .i64 0] }:=rfl
theorem th49:Θ 49=some { k:=.slice 5,sz:=1,bys:=24,z:=some [.nil] }:=rfl
theorem th94:Θ 94=some { k:=.int .u64,sz:=1,bys:=8,z:=some [.int .u64 0] }:=rfl
theorem th102:Θ 102=some { k:=.map 9 4,sz:=1,bys:=8,z:=some [.nilk 0] }:=rfl
theorem tab_of {P:Program}:∀ (l:List (Nat×TI)),(∀ p∈l,TOk P p.1 p.2)→TabOk P (fun t=>(l.find? fun p=>Nat.beq p.1 t).map (·.2)):=by
 intro l h t i hi;obtain ⟨p,hp,rfl⟩:=Option.map_eq_some_iff.1 hi;have h1:=List.mem_of_find?_eq_some hp;have h2:=List.find?_some hp;have h3:p.1=t:=Nat.eq_of_beq_eq_true h2;rw [← h3];exact h p h1
theorem tok1:TOk Try.prog 1 { k:=.fn,sz:=1,bys:=8,z:=some [.nilk 1] }:=⟨by kernel_rfl,by kernel_rfl,fun l h=>by injection h with h;subst h;exact ⟨by kernel_rfl,by kernel_rfl,by decide⟩,fun h=>by cases h⟩
theorem tok2:TOk Try.prog 2 { k:=.int .i64,sz:=1,bys:=8,z:=some [.int .i64 0] }:=⟨by kernel_rfl,by kernel_rfl,fun l h=>by injection h with h;subst h;exact ⟨by kernel_rfl,by kernel_rfl,by decide⟩,fun h=>by cases h⟩
theorem tok3:TOk Try.prog 3 { k:=.int .i64,sz:=1,bys:=8,z:=some [.int .i64 0] }:=⟨by kernel_rfl,by kernel_rfl,fun l h=>by injection h with h;subst h;exact ⟨by kernel_rfl,by kernel_rfl,by decide⟩,fun h=>by cases h⟩
theorem tok4:TOk Try.prog 4 { k:=.bool,sz:=1,bys:=1,z:=some [.bool false] }:=⟨by kernel_rfl,by kernel_rfl,fun l h=>by injection h with h;subst h;exact ⟨by kernel_rfl,by kernel_rfl,by decide⟩,fun h=>by cases h⟩
theorem tok5:TOk Try.prog 5 { k:=.int .u8,sz:=1,bys:=1,z:=some [.int .u8 0] }:=⟨by kernel_rfl,by kernel_rfl,fun l h=>by injection h with h;subst h;exact ⟨by kernel_rfl,by kernel_rfl,by decide⟩,fun h=>by cases h⟩
theorem tok9:TOk Try.prog 9 { k:=.str,sz:=1,bys:=16,z:=some [.str []] }:=⟨by kernel_rfl,by kernel_rfl,fun l h=>by injection h with h;subst h;exact ⟨by kernel_rfl,by kernel_rfl,by decide⟩,fun h=>by cases h⟩
theorem tok21:TOk Try.prog 21 { k:=.int .i32,sz:=1,bys:=4,z:=some [.int .i32 0] }:=⟨by kernel_rfl,by kernel_rfl,fun l h=>by injection h with h;subst h;exact ⟨by kernel_rfl,by kernel_rfl,by decide⟩,fun h=>by cases h⟩
theorem tok22:TOk Try.prog 22 { k:=.slice 9,sz:=1,bys:=24,z:=some [.nil] }:=⟨by kernel_rfl,by kernel_rfl,fun l h=>by injection h with h;subst h;exact ⟨by kernel_rfl,by kernel_rfl,by decide⟩,fun h=>by cases h⟩
theorem tok24:TOk Try.prog 24 { k:=.struct [(0,9),(1,22),(2,3)],sz:=3,bys:=48,z:=some [.str [],.nil,.int .i64 0] }:=⟨by kernel_rfl,by kernel_rfl,fun l h=>by injection h with h;subst h;exact ⟨by kernel_rfl,by kernel_rfl,by decide⟩,fun h=>by cases h⟩
theorem tok25:TOk Try.prog 25 { k:=.slice 27,sz:=1,bys:=24,z:=some [.nil] }:=⟨by kernel_rfl,by kernel_rfl,fun l h=>by injection h with h;subst h;exact ⟨by kernel_rfl,by kernel_rfl,by decide⟩,fun h=>by cases h⟩
theorem tok27:TOk Try.prog 27 { k:=.struct [(0,3),(1,3),(2,9),(3,25),(4,22)],sz:=5,bys:=80,z:=some [.int .i64 0,.int .i64 0,.str [],.nil,.nil] }:=⟨by kernel_rfl,by kernel_rfl,fun l h=>by injection h with h;subst h;exact ⟨by kernel_rfl,by kernel_rfl,by decide⟩,fun h=>by cases h⟩
theorem tok28:TOk Try.prog 28 { k:=.slice 46,sz:=1,bys:=24,z:=some [.nil] }:=⟨by kernel_rfl,by kernel_rfl,fun l h=>by injection h with h;subst h;exact ⟨by kernel_rfl,by kernel_rfl,by decide⟩,fun h=>by cases h⟩
theorem tok30:TOk Try.prog 30 { k:=.struct [(0,3),(1,3),(2,9),(3,9),(4,27),(9,27),(14,28),(15,3),(16,3)],sz:=17,bys:=248,z:=some [.int .i64 0,.int .i64 0,.str [],.str [],.int .i64 0,.int .i64 0,.str [],.nil,.nil,.int .i64 0,.int .i64 0,.str [],.nil,.nil,.nil,.int .i64 0,.int .i64 0] }:=⟨by kernel_rfl,by kernel_rfl,fun l h=>by injection h with h;subst h;exact ⟨by kernel_rfl,by kernel_rfl,by decide⟩,fun h=>by cases h⟩
theorem tok34:TOk Try.prog 34 { k:=.fn,sz:=1,bys:=8,z:=some [.nilk 1] }:=⟨by kernel_rfl,by kernel_rfl,fun l h=>by injection h with h;subst h;exact ⟨by kernel_rfl,by kernel_rfl,by decide⟩,fun h=>by cases h⟩
theorem tok35:TOk Try.prog 35 { k:=.int .i64,sz:=1,bys:=8,z:=some [.int .i64 0] }:=⟨by kernel_rfl,by kernel_rfl,fun l h=>by injection h with h;subst h;exact ⟨by kernel_rfl,by kernel_rfl,by decide⟩,fun h=>by cases h⟩
theorem tok38:TOk Try.prog 38 { k:=.fn,sz:=1,bys:=8,z:=some [.nilk 1] }:=⟨by kernel_rfl,by kernel_rfl,fun l h=>by injection h with h;subst h;exact ⟨by kernel_rfl,by kernel_rfl,by decide⟩,fun h=>by cases h⟩
theorem tok44:TOk Try.prog 44 { k:=.slice 30,sz:=1,bys:=24,z:=some [.nil] }:=⟨by kernel_rfl,by kernel_rfl,fun l h=>by injection h with h;subst h;exact ⟨by kernel_rfl,by kernel_rfl,by decide⟩,fun h=>by cases h⟩
theorem tok46:TOk Try.prog 46 { k:=.struct [(0,3),(1,22),(2,27),(7,3)],sz:=8,bys:=120,z:=some [.int .i64 0,.nil,.int .i64 0,.int .i64 0,.str [],.nil,.nil,.int .i64 0] }:=⟨by kernel_rfl,by kernel_rfl,fun l h=>by injection h with h;subst h;exact ⟨by kernel_rfl,by kernel_rfl,by decide⟩,fun h=>by cases h⟩
theorem tok49:TOk Try.prog 49 { k:=.slice 5,sz:=1,bys:=24,z:=some [.nil] }:=⟨by kernel_rfl,by kernel_rfl,fun l h=>by injection h with h;subst h;exact ⟨by kernel_rfl,by kernel_rfl,by decide⟩,fun h=>by cases h⟩
theorem tok51:TOk Try.prog 51 { k:=.ptr 73,sz:=1,bys:=8,z:=some [.nilp] }:=⟨by kernel_rfl,by kernel_rfl,fun l h=>by injection h with h;subst h;exact ⟨by kernel_rfl,by kernel_rfl,by decide⟩,fun h=>by cases h⟩
theorem tok57:TOk Try.prog 57 { k:=.fn,sz:=1,bys:=8,z:=some [.nilk 1] }:=⟨by kernel_rfl,by kernel_rfl,fun l h=>by injection h with h;subst h;exact ⟨by kernel_rfl,by kernel_rfl,by decide⟩,fun h=>by cases h⟩
theorem tok64:TOk Try.prog 64 { k:=.slice 3,sz:=1,bys:=24,z:=some [.nil] }:=⟨by kernel_rfl,by kernel_rfl,fun l h=>by injection h with h;subst h;exact ⟨by kernel_rfl,by kernel_rfl,by decide⟩,fun h=>by cases h⟩
theorem tok65:TOk Try.prog 65 { k:=.fn,sz:=1,bys:=8,z:=some [.nilk 1] }:=⟨by kernel_rfl,by kernel_rfl,fun l h=>by injection h with h;subst h;exact ⟨by kernel_rfl,by kernel_rfl,by decide⟩,fun h=>by cases h⟩
theorem tok73:TOk Try.prog 73 { k:=.struct [(0,49),(1,4)],sz:=2,bys:=32,z:=some [.nil,.bool false] }:=⟨by kernel_rfl,by kernel_rfl,fun l h=>by injection h with h;subst h;exact ⟨by kernel_rfl,by kernel_rfl,by decide⟩,fun h=>by cases h⟩
theorem tok75:TOk Try.prog 75 { k:=.fn,sz:=1,bys:=8,z:=some [.nilk 1] }:=⟨by kernel_rfl,by kernel_rfl,fun l h=>by injection h with h;subst h;exact ⟨by kernel_rfl,by kernel_rfl,by decide⟩,fun h=>by cases h⟩
theorem tok94:TOk Try.prog 94 { k:=.int .u64,sz:=1,bys:=8,z:=some [.int .u64 0] }:=⟨by kernel_rfl,by kernel_rfl,fun l h=>by injection h with h;subst h;exact ⟨by kernel_rfl,by kernel_rfl,by decide⟩,fun h=>by cases h⟩
theorem tok102:TOk Try.prog 102 { k:=.map 9 4,sz:=1,bys:=8,z:=some [.nilk 0] }:=⟨by kernel_rfl,by kernel_rfl,fun l h=>by injection h with h;subst h;exact ⟨by kernel_rfl,by kernel_rfl,by decide⟩,fun h=>by cases h⟩
theorem tok106:TOk Try.prog 106 { k:=.fn,sz:=1,bys:=8,z:=some [.nilk 1] }:=⟨by kernel_rfl,by kernel_rfl,fun l h=>by injection h with h;subst h;exact ⟨by kernel_rfl,by kernel_rfl,by decide⟩,fun h=>by cases h⟩
theorem tok128:TOk Try.prog 128 { k:=.arr 256 4,sz:=256,bys:=256,z:=some (List.replicate 256 (.bool false)) }:=⟨by kernel_rfl,by kernel_rfl,fun l h=>by injection h with h;subst h;exact ⟨by kernel_rfl,by kernel_rfl,by decide⟩,fun h=>by cases h⟩
theorem tok138:TOk Try.prog 138 { k:=.int .u32,sz:=1,bys:=4,z:=some [.int .u32 0] }:=⟨by kernel_rfl,by kernel_rfl,fun l h=>by injection h with h;subst h;exact ⟨by kernel_rfl,by kernel_rfl,by decide⟩,fun h=>by cases h⟩
theorem tabOk:TabOk Try.prog Θ:=tab_of tl (by
 simp only [tl,List.forall_mem_cons];exact ⟨tok1,tok2,tok3,tok4,tok5,tok9,tok21,tok22,tok24,tok25,tok27,tok28,tok30,tok34,tok35,tok38,tok44,tok46,tok49,tok51,tok57,tok64,tok65,tok73,tok75,tok94,tok102,tok106,tok128,tok138,by simp⟩)
section
variable {P:Program} {Θ:Tab} {ops:Array Oper} {K:St→Prop} {r:List Oper} {sl:Nat→SV} {o:Nat→Option AO} {nk d ty t f:Nat} {x y:Operand} {pos:String} {af:Array Edge}
theorem pa {a:D} (hx:ev sl x=.d a:=by rfl):vOp P Θ (.assign x) ⟨sl,o,nk⟩ (fun v2 o2 nk2=>v2=.d a∧o2=o∧nk2=nk):=o_assign hx ⟨rfl,rfl,rfl⟩
theorem ua {a:D} (h:vOps P Θ ops K r ⟨upd sl d (.d a),o,nk⟩) (hx:ev sl x=.d a:=by rfl):vOps P Θ ops K ({ dst:=some d,op:=.assign x,type:=ty,pos:=pos,after:=af,guard:=none } :: r) ⟨sl,o,nk⟩:=u_step (o_assign hx h)
theorem da {a:D} (h:dOps P Θ ops K r ⟨upd sl d (.d a),o,nk⟩) (hx:ev sl x=.d a:=by rfl):dOps P Θ ops K ({ dst:=some d,op:=.assign x,type:=ty,pos:=pos,after:=af,guard:=none } :: r) ⟨sl,o,nk⟩:=d_step (o_assign hx ⟨rfl,rfl,rfl⟩) h
theorem pm {a:D} (hx:ev sl x=.d a:=by rfl):vOp P Θ (.move x) ⟨sl,o,nk⟩ (fun v2 o2 nk2=>v2=.d a∧o2=o∧nk2=nk):=o_move hx ⟨rfl,rfl,rfl⟩
theorem um {a:D} (h:vOps P Θ ops K r ⟨upd sl d (.d a),o,nk⟩) (hx:ev sl x=.d a:=by rfl):vOps P Θ ops K ({ dst:=some d,op:=.move x,type:=ty,pos:=pos,after:=af,guard:=none } :: r) ⟨sl,o,nk⟩:=u_step (o_move hx h)
theorem dm {a:D} (h:dOps P Θ ops K r ⟨upd sl d (.d a),o,nk⟩) (hx:ev sl x=.d a:=by rfl):dOps P Θ ops K ({ dst:=some d,op:=.move x,type:=ty,pos:=pos,after:=af,guard:=none } :: r) ⟨sl,o,nk⟩:=d_step (o_move hx ⟨rfl,rfl,rfl⟩) h
theorem uM {k g:Nat} (h:vOps P Θ ops K r ⟨upd sl d (.loc k g),o,nk⟩) (hx:ev sl x=.loc k g:=by rfl):vOps P Θ ops K ({ dst:=some d,op:=.move x,type:=ty,pos:=pos,after:=af,guard:=none } :: r) ⟨sl,o,nk⟩:=u_step (o_moveV hx h)
theorem uT {k g:Nat} (h:vOps P Θ ops K r ⟨upd sl d (.loc k g),o,nk⟩) (hx:ev sl x=.loc k g:=by rfl):vOps P Θ ops K ({ dst:=some d,op:=.assign x,type:=ty,pos:=pos,after:=af,guard:=none } :: r) ⟨sl,o,nk⟩:=u_step (o_assignV hx h)
theorem uR {k:Nat} (h:vOps P Θ ops K r ⟨upd sl d (.row k),o,nk⟩) (hx:ev sl x=.row k:=by rfl):vOps P Θ ops K ({ dst:=some d,op:=.move x,type:=ty,pos:=pos,after:=af,guard:=none } :: r) ⟨sl,o,nk⟩:=u_step (o_moveV hx h)
theorem uS {k:Nat} (h:vOps P Θ ops K r ⟨upd sl d (.row k),o,nk⟩) (hx:ev sl x=.row k:=by rfl):vOps P Θ ops K ({ dst:=some d,op:=.assign x,type:=ty,pos:=pos,after:=af,guard:=none } :: r) ⟨sl,o,nk⟩:=u_step (o_assignV hx h)
theorem pb {bo:BinOp} {u:Nat} {k:IntKind} {m m2:Int} {q:D} (hx:ev sl x=.d (.int k m):=by rfl) (hy:ev sl y=.d (.int k m2):=by rfl) (hb:bo≠.shl∧bo≠.shr:=by decide) (hr:intBin bo k m m2=some q:=by rfl):vOp P Θ (.binOp bo t x y u) ⟨sl,o,nk⟩ (fun v2 o2 nk2=>v2=.d q∧o2=o∧nk2=nk):=o_bin_int hx hy hb hr ⟨rfl,rfl,rfl⟩
theorem ub {bo:BinOp} {u:Nat} {k:IntKind} {m m2:Int} {q:D} (h:vOps P Θ ops K r ⟨upd sl d (.d q),o,nk⟩) (hx:ev sl x=.d (.int k m):=by rfl) (hy:ev sl y=.d (.int k m2):=by rfl) (hb:bo≠.shl∧bo≠.shr:=by decide) (hr:intBin bo k m m2=some q:=by rfl):vOps P Θ ops K ({ dst:=some d,op:=.binOp bo t x y u,type:=ty,pos:=pos,after:=af,guard:=none } :: r) ⟨sl,o,nk⟩:=u_step (o_bin_int hx hy hb hr h)
theorem db {bo:BinOp} {u:Nat} {k:IntKind} {m m2:Int} {q:D} (h:dOps P Θ ops K r ⟨upd sl d (.d q),o,nk⟩) (hx:ev sl x=.d (.int k m):=by rfl) (hy:ev sl y=.d (.int k m2):=by rfl) (hb:bo≠.shl∧bo≠.shr:=by decide) (hr:intBin bo k m m2=some q:=by rfl):dOps P Θ ops K ({ dst:=some d,op:=.binOp bo t x y u,type:=ty,pos:=pos,after:=af,guard:=none } :: r) ⟨sl,o,nk⟩:=d_step (o_bin_int hx hy hb hr ⟨rfl,rfl,rfl⟩) h
theorem ps {bo:BinOp} {u:Nat} {l l2:List UInt8} {q:D} (hx:ev sl x=.d (.str l):=by rfl) (hy:ev sl y=.d (.str l2):=by rfl) (hr:strBin bo l l2=some q:=by rfl):vOp P Θ (.binOp bo t x y u) ⟨sl,o,nk⟩ (fun v2 o2 nk2=>v2=.d q∧o2=o∧nk2=nk):=o_bin_str hx hy hr ⟨rfl,rfl,rfl⟩
theorem us {bo:BinOp} {u:Nat} {l l2:List UInt8} {q:D} (h:vOps P Θ ops K r ⟨upd sl d (.d q),o,nk⟩) (hx:ev sl x=.d (.str l):=by rfl) (hy:ev sl y=.d (.str l2):=by rfl) (hr:strBin bo l l2=some q:=by rfl):vOps P Θ ops K ({ dst:=some d,op:=.binOp bo t x y u,type:=ty,pos:=pos,after:=af,guard:=none } :: r) ⟨sl,o,nk⟩:=u_step (o_bin_str hx hy hr h)
theorem ds {bo:BinOp} {u:Nat} {l l2:List UInt8} {q:D} (h:dOps P Θ ops K r ⟨upd sl d (.d q),o,nk⟩) (hx:ev sl x=.d (.str l):=by rfl) (hy:ev sl y=.d (.str l2):=by rfl) (hr:strBin bo l l2=some q:=by rfl):dOps P Θ ops K ({ dst:=some d,op:=.binOp bo t x y u,type:=ty,pos:=pos,after:=af,guard:=none } :: r) ⟨sl,o,nk⟩:=d_step (o_bin_str hx hy hr ⟨rfl,rfl,rfl⟩) h
theorem pA {c:Operand} {p q:Bool} (hc:ev sl c=.d (.bool p):=by rfl) (hx:ev sl x=cnd p (.d (.bool q)):=by rfl) (hy:ev sl y=.d (.bool false):=by rfl):vOp P Θ (.pick c x y) ⟨sl,o,nk⟩ (fun v2 o2 nk2=>v2=.d (.bool (p && q))∧o2=o∧nk2=nk):=o_pick_and hc hx hy ⟨rfl,rfl,rfl⟩
theorem uA {c:Operand} {p q:Bool} (h:vOps P Θ ops K r ⟨upd sl d (.d (.bool (p && q))),o,nk⟩) (hc:ev sl c=.d (.bool p):=by rfl) (hx:ev sl x=cnd p (.d (.bool q)):=by rfl) (hy:ev sl y=.d (.bool false):=by rfl):vOps P Θ ops K ({ dst:=some d,op:=.pick c x y,type:=ty,pos:=pos,after:=af,guard:=none } :: r) ⟨sl,o,nk⟩:=u_step (o_pick_and hc hx hy h)
theorem pO {c:Operand} {p q:Bool} (hc:ev sl c=.d (.bool p):=by rfl) (hx:ev sl x=.d (.bool true):=by rfl) (hy:ev sl y=cnd (!p) (.d (.bool q)):=by rfl):vOp P Θ (.pick c x y) ⟨sl,o,nk⟩ (fun v2 o2 nk2=>v2=.d (.bool (p || q))∧o2=o∧nk2=nk):=o_pick_or hc hx hy ⟨rfl,rfl,rfl⟩
theorem uO {c:Operand} {p q:Bool} (h:vOps P Θ ops K r ⟨upd sl d (.d (.bool (p || q))),o,nk⟩) (hc:ev sl c=.d (.bool p):=by rfl) (hx:ev sl x=.d (.bool true):=by rfl) (hy:ev sl y=cnd (!p) (.d (.bool q)):=by rfl):vOps P Θ ops K ({ dst:=some d,op:=.pick c x y,type:=ty,pos:=pos,after:=af,guard:=none } :: r) ⟨sl,o,nk⟩:=u_step (o_pick_or hc hx hy h)
theorem dO {c:Operand} {p q:Bool} (h:dOps P Θ ops K r ⟨upd sl d (.d (.bool (p || q))),o,nk⟩) (hc:ev sl c=.d (.bool p):=by rfl) (hx:ev sl x=.d (.bool true):=by rfl) (hy:ev sl y=cnd (!p) (.d (.bool q)):=by rfl):dOps P Θ ops K ({ dst:=some d,op:=.pick c x y,type:=ty,pos:=pos,after:=af,guard:=none } :: r) ⟨sl,o,nk⟩:=d_step (o_pick_or hc hx hy ⟨rfl,rfl,rfl⟩) h
theorem pf {i j:TI} {fs:List (Nat×Nat)} {off ft k g:Nat} {cs:List SV} (hi:Θ t=some i) (hj:Θ ft=some j) (ho:o k=some (.box cs)) (hx:ev sl x=.loc k g:=by rfl) (hk:i.k=.struct fs:=by rfl) (hf:fs[f]?=some (off,ft):=by rfl) (hz:j.sz≠0:=by decide):vOp P Θ (.fieldAddr t x f) ⟨sl,o,nk⟩ (fun v2 o2 nk2=>v2=.loc k (g+off)∧o2=o∧nk2=nk):=o_fa_loc hx hi hk hf hj hz ho ⟨rfl,rfl,rfl⟩
theorem uf {i j:TI} {fs:List (Nat×Nat)} {off ft k g:Nat} {cs:List SV} (hi:Θ t=some i) (hj:Θ ft=some j) (ho:o k=some (.box cs)) (h:vOps P Θ ops K r ⟨upd sl d (.loc k (g+off)),o,nk⟩) (hx:ev sl x=.loc k g:=by rfl) (hk:i.k=.struct fs:=by rfl) (hf:fs[f]?=some (off,ft):=by rfl) (hz:j.sz≠0:=by decide):vOps P Θ ops K ({ dst:=some d,op:=.fieldAddr t x f,type:=ty,pos:=pos,after:=af,guard:=none } :: r) ⟨sl,o,nk⟩:=u_step (o_fa_loc hx hi hk hf hj hz ho h)
theorem df {i j:TI} {fs:List (Nat×Nat)} {off ft k g:Nat} {cs:List SV} (hi:Θ t=some i) (hj:Θ ft=some j) (ho:o k=some (.box cs)) (h:dOps P Θ ops K r ⟨upd sl d (.loc k (g+off)),o,nk⟩) (hx:ev sl x=.loc k g:=by rfl) (hk:i.k=.struct fs:=by rfl) (hf:fs[f]?=some (off,ft):=by rfl) (hz:j.sz≠0:=by decide):dOps P Θ ops K ({ dst:=some d,op:=.fieldAddr t x f,type:=ty,pos:=pos,after:=af,guard:=none } :: r) ⟨sl,o,nk⟩:=d_step (o_fa_loc hx hi hk hf hj hz ho ⟨rfl,rfl,rfl⟩) h
theorem pF {a b:D} {i j:TI} {fs:List (Nat×Nat)} {off ft:Nat} (hi:Θ t=some i) (hj:Θ ft=some j) (hx:ev sl x=.el a:=by rfl) (hk:i.k=.struct fs:=by rfl) (hf:fs[f]?=some (off,ft):=by rfl) (hz:j.sz≠0:=by decide) (hs:a.sub off j.sz j.k.agg=some b:=by rfl):vOp P Θ (.fieldAddr t x f) ⟨sl,o,nk⟩ (fun v2 o2 nk2=>v2=.el b∧o2=o∧nk2=nk):=o_fa_el hx hi hk hf hj hz hs ⟨rfl,rfl,rfl⟩
theorem uF {a b:D} {i j:TI} {fs:List (Nat×Nat)} {off ft:Nat} (hi:Θ t=some i) (hj:Θ ft=some j) (h:vOps P Θ ops K r ⟨upd sl d (.el b),o,nk⟩) (hx:ev sl x=.el a:=by rfl) (hk:i.k=.struct fs:=by rfl) (hf:fs[f]?=some (off,ft):=by rfl) (hz:j.sz≠0:=by decide) (hs:a.sub off j.sz j.k.agg=some b:=by rfl):vOps P Θ ops K ({ dst:=some d,op:=.fieldAddr t x f,type:=ty,pos:=pos,after:=af,guard:=none } :: r) ⟨sl,o,nk⟩:=u_step (o_fa_el hx hi hk hf hj hz hs h)
theorem dF {a b:D} {i j:TI} {fs:List (Nat×Nat)} {off ft:Nat} (hi:Θ t=some i) (hj:Θ ft=some j) (h:dOps P Θ ops K r ⟨upd sl d (.el b),o,nk⟩) (hx:ev sl x=.el a:=by rfl) (hk:i.k=.struct fs:=by rfl) (hf:fs[f]?=some (off,ft):=by rfl) (hz:j.sz≠0:=by decide) (hs:a.sub off j.sz j.k.agg=some b:=by rfl):dOps P Θ ops K ({ dst:=some d,op:=.fieldAddr t x f,type:=ty,pos:=pos,after:=af,guard:=none } :: r) ⟨sl,o,nk⟩:=d_step (o_fa_el hx hi hk hf hj hz hs ⟨rfl,rfl,rfl⟩) h
theorem pl {i:TI} {k g:Nat} {cs:List SV} {v:D} (hi:Θ t=some i) (ho:o k=some (.box cs)) (hx:ev sl x=.loc k g:=by rfl) (ha:i.k.agg=false:=by rfl) (hc:cs[g]?=some (.d v):=by rfl):vOp P Θ (.load t x) ⟨sl,o,nk⟩ (fun v2 o2 nk2=>v2=.d v∧o2=o∧nk2=nk):=o_ld_loc hx hi ha ho hc ⟨rfl,rfl,rfl⟩
theorem ul {i:TI} {k g:Nat} {cs:List SV} {v:D} (hi:Θ t=some i) (ho:o k=some (.box cs)) (h:vOps P Θ ops K r ⟨upd sl d (.d v),o,nk⟩) (hx:ev sl x=.loc k g:=by rfl) (ha:i.k.agg=false:=by rfl) (hc:cs[g]?=some (.d v):=by rfl):vOps P Θ ops K ({ dst:=some d,op:=.load t x,type:=ty,pos:=pos,after:=af,guard:=none } :: r) ⟨sl,o,nk⟩:=u_step (o_ld_loc hx hi ha ho hc h)
theorem dl {i:TI} {k g:Nat} {cs:List SV} {v:D} (hi:Θ t=some i) (ho:o k=some (.box cs)) (h:dOps P Θ ops K r ⟨upd sl d (.d v),o,nk⟩) (hx:ev sl x=.loc k g:=by rfl) (ha:i.k.agg=false:=by rfl) (hc:cs[g]?=some (.d v):=by rfl):dOps P Θ ops K ({ dst:=some d,op:=.load t x,type:=ty,pos:=pos,after:=af,guard:=none } :: r) ⟨sl,o,nk⟩:=d_step (o_ld_loc hx hi ha ho hc ⟨rfl,rfl,rfl⟩) h
theorem pg {i:TI} {k g:Nat} {cs:List SV} {ds:List D} (hi:Θ t=some i) (ho:o k=some (.box cs)) (hx:ev sl x=.loc k g:=by rfl) (ha:i.k.agg=true:=by rfl) (hc:allD ((cs.drop g).take i.sz)=some ds:=by rfl) (hl:ds.length=i.sz:=by rfl) (hf:ds.all D.leaf=true:=by rfl):vOp P Θ (.load t x) ⟨sl,o,nk⟩ (fun v2 o2 nk2=>v2=.d (.agg ds)∧o2=o∧nk2=nk):=o_ld_agg hx hi ha ho hc hl hf ⟨rfl,rfl,rfl⟩
theorem ug {i:TI} {k g:Nat} {cs:List SV} {ds:List D} (hi:Θ t=some i) (ho:o k=some (.box cs)) (h:vOps P Θ ops K r ⟨upd sl d (.d (.agg ds)),o,nk⟩) (hx:ev sl x=.loc k g:=by rfl) (ha:i.k.agg=true:=by rfl) (hc:allD ((cs.drop g).take i.sz)=some ds:=by rfl) (hl:ds.length=i.sz:=by rfl) (hf:ds.all D.leaf=true:=by rfl):vOps P Θ ops K ({ dst:=some d,op:=.load t x,type:=ty,pos:=pos,after:=af,guard:=none } :: r) ⟨sl,o,nk⟩:=u_step (o_ld_agg hx hi ha ho hc hl hf h)
theorem dg {i:TI} {k g:Nat} {cs:List SV} {ds:List D} (hi:Θ t=some i) (ho:o k=some (.box cs)) (h:dOps P Θ ops K r ⟨upd sl d (.d (.agg ds)),o,nk⟩) (hx:ev sl x=.loc k g:=by rfl) (ha:i.k.agg=true:=by rfl) (hc:allD ((cs.drop g).take i.sz)=some ds:=by rfl) (hl:ds.length=i.sz:=by rfl) (hf:ds.all D.leaf=true:=by rfl):dOps P Θ ops K ({ dst:=some d,op:=.load t x,type:=ty,pos:=pos,after:=af,guard:=none } :: r) ⟨sl,o,nk⟩:=d_step (o_ld_agg hx hi ha ho hc hl hf ⟨rfl,rfl,rfl⟩) h
theorem pL {a:D} {i:TI} (hi:Θ t=some i) (hx:ev sl x=.el a:=by rfl) (h1:a.leaf=!i.k.agg:=by first | rfl | simp only [encV_leaf,encV_width,Bool.not_true,TK.agg]) (h2:a.width=i.sz:=by first | rfl | simp only [encV_leaf,encV_width,Bool.not_true,TK.agg]):vOp P Θ (.load t x) ⟨sl,o,nk⟩ (fun v2 o2 nk2=>v2=.d a∧o2=o∧nk2=nk):=o_ld_el hx hi h1 h2 ⟨rfl,rfl,rfl⟩
theorem uL {a:D} {i:TI} (hi:Θ t=some i) (h:vOps P Θ ops K r ⟨upd sl d (.d a),o,nk⟩) (hx:ev sl x=.el a:=by rfl) (h1:a.leaf=!i.k.agg:=by first | rfl | simp only [encV_leaf,encV_width,Bool.not_true,TK.agg]) (h2:a.width=i.sz:=by first | rfl | simp only [encV_leaf,encV_width,Bool.not_true,TK.agg]):vOps P Θ ops K ({ dst:=some d,op:=.load t x,type:=ty,pos:=pos,after:=af,guard:=none } :: r) ⟨sl,o,nk⟩:=u_step (o_ld_el hx hi h1 h2 h)
theorem dL {a:D} {i:TI} (hi:Θ t=some i) (h:dOps P Θ ops K r ⟨upd sl d (.d a),o,nk⟩) (hx:ev sl x=.el a:=by rfl) (h1:a.leaf=!i.k.agg:=by first | rfl | simp only [encV_leaf,encV_width,Bool.not_true,TK.agg]) (h2:a.width=i.sz:=by first | rfl | simp only [encV_leaf,encV_width,Bool.not_true,TK.agg]):dOps P Θ ops K ({ dst:=some d,op:=.load t x,type:=ty,pos:=pos,after:=af,guard:=none } :: r) ⟨sl,o,nk⟩:=d_step (o_ld_el hx hi h1 h2 ⟨rfl,rfl,rfl⟩) h
theorem pn {i:TI} {z e:Nat} {xs:List D} (hi:Θ t=some i) (hx:ev sl x=.d (.sl z xs):=by rfl) (hk:i.k=.slice e:=by rfl):vOp P Θ (.call { callee:=.builtin .len,args:=#[x],argTypes:=#[t] }) ⟨sl,o,nk⟩ (fun v2 o2 nk2=>v2=.d (.int .i64 xs.length)∧o2=o∧nk2=nk):=o_len_sl hx hi hk ⟨rfl,rfl,rfl⟩
theorem un {i:TI} {z e:Nat} {xs:List D} (hi:Θ t=some i) (h:vOps P Θ ops K r ⟨upd sl d (.d (.int .i64 xs.length)),o,nk⟩) (hx:ev sl x=.d (.sl z xs):=by rfl) (hk:i.k=.slice e:=by rfl):vOps P Θ ops K ({ dst:=some d,op:=.call { callee:=.builtin .len,args:=#[x],argTypes:=#[t] },type:=ty,pos:=pos,after:=af,guard:=none } :: r) ⟨sl,o,nk⟩:=u_step (o_len_sl hx hi hk h)
theorem dn {i:TI} {z e:Nat} {xs:List D} (hi:Θ t=some i) (h:dOps P Θ ops K r ⟨upd sl d (.d (.int .i64 xs.length)),o,nk⟩) (hx:ev sl x=.d (.sl z xs):=by rfl) (hk:i.k=.slice e:=by rfl):dOps P Θ ops K ({ dst:=some d,op:=.call { callee:=.builtin .len,args:=#[x],argTypes:=#[t] },type:=ty,pos:=pos,after:=af,guard:=none } :: r) ⟨sl,o,nk⟩:=d_step (o_len_sl hx hi hk ⟨rfl,rfl,rfl⟩) h
theorem ue {q:Nat} {xs:List SV} {c:SV} (h:vOps P Θ ops K r ⟨upd sl d (c),o,nk⟩) (hx:ev sl x=.tup xs:=by rfl) (hq:xs[q]?=some c:=by rfl):vOps P Θ ops K ({ dst:=some d,op:=.extract x q,type:=ty,pos:=pos,after:=af,guard:=none } :: r) ⟨sl,o,nk⟩:=u_step (o_ext hx hq h)
theorem uc {i j:TI} {e:Nat} {k k2:IntKind} {m:Int} (hi:Θ t=some i) (hj:Θ e=some j) (h:vOps P Θ ops K r ⟨upd sl d (.d (.int k2 (k2.wrap m))),o,nk⟩) (hx:ev sl x=.d (.int k m):=by rfl) (hk:j.k=.int k2:=by rfl):vOps P Θ ops K ({ dst:=some d,op:=.convert t e x,type:=ty,pos:=pos,after:=af,guard:=none } :: r) ⟨sl,o,nk⟩:=u_step (o_cv_int hx hi hj hk h)
theorem pN {p:Bool} (hx:ev sl x=.d (.bool p):=by rfl):vOp P Θ (.unOp .not t x) ⟨sl,o,nk⟩ (fun v2 o2 nk2=>v2=.d (.bool (!p))∧o2=o∧nk2=nk):=o_not hx ⟨rfl,rfl,rfl⟩
theorem uN {p:Bool} (h:vOps P Θ ops K r ⟨upd sl d (.d (.bool (!p))),o,nk⟩) (hx:ev sl x=.d (.bool p):=by rfl):vOps P Θ ops K ({ dst:=some d,op:=.unOp .not t x,type:=ty,pos:=pos,after:=af,guard:=none } :: r) ⟨sl,o,nk⟩:=u_step (o_not hx h)
theorem dN {p:Bool} (h:dOps P Θ ops K r ⟨upd sl d (.d (.bool (!p))),o,nk⟩) (hx:ev sl x=.d (.bool p):=by rfl):dOps P Θ ops K ({ dst:=some d,op:=.unOp .not t x,type:=ty,pos:=pos,after:=af,guard:=none } :: r) ⟨sl,o,nk⟩:=d_step (o_not hx ⟨rfl,rfl,rfl⟩) h
theorem gT {j:Nat} {op:Op} {v:SV} {b:Bool} (hb:gsl ops ⟨sl,o,nk⟩ j=.d (.bool b)) (h:b=true→vOp P Θ op ⟨sl,o,nk⟩ fun v2 o2 nk2=>v2=v∧o2=o∧nk2=nk) (k:vOps P Θ ops K r ⟨upd sl d (cnd b v),o,nk⟩) :
 vOps P Θ ops K ({ dst:=some d,op:=op,type:=ty,pos:=pos,after:=af,guard:=some (j,true) } :: r) ⟨sl,o,nk⟩:=u_guard (by rw [hb];exact GC.t _) h k
theorem gF {j:Nat} {op:Op} {v:SV} {b:Bool} (hb:gsl ops ⟨sl,o,nk⟩ j=.d (.bool b)) (h:(!b)=true→vOp P Θ op ⟨sl,o,nk⟩ fun v2 o2 nk2=>v2=v∧o2=o∧nk2=nk) (k:vOps P Θ ops K r ⟨upd sl d (cnd (!b) v),o,nk⟩) :
 vOps P Θ ops K ({ dst:=some d,op:=op,type:=ty,pos:=pos,after:=af,guard:=some (j,false) } :: r) ⟨sl,o,nk⟩:=u_guard (by rw [hb];exact GC.f _) h k
theorem ct (v:SV):cnd true v=v:=cnd_true v
theorem Bt (a:Bool):(true && a)=a:=Bool.true_and a
end
section
variable {n k0:Nat} {Q:Exit→St→Prop} {s:St} {id:Nat} {l:List Oper} {c e:Code}
theorem wr (h:vOps Try.prog Θ l.toArray (fun s2=>WP Try.prog n k0 c s2 Q) l s) (hd:(l.all fun o=>dstOk n o.dst)=true:=by rfl):WP Try.prog n k0 (.seq (.region id l.toArray false) c) s Q:=
 WP.seq fun K hK=>WP.mono (WP.reg (Q:=Qthen (fun s2=>WP Try.prog n k0 c s2 Q) Q) tabOk hd h) fun e s2 hq=>by
  cases e with
  | normal=>exact hK s2 hq
  | _=>exact hq
theorem mix:(Try.prog).follows .mixedOrders=true:=by kernel_rfl
theorem wd (h:dOps Try.prog Θ l.toArray (fun s2=>WP Try.prog n k0 c s2 Q) l s) (hd:(l.all fun o=>dstOk n o.dst)=true:=by rfl) (hf:flowOk l.toArray=true:=by kernel_rfl):WP Try.prog n k0 (.seq (.region id l.toArray true) c) s Q:=
 WP.seq fun K hK=>WP.mono (WP.drw (Q:=Qthen (fun s2=>WP Try.prog n k0 c s2 Q) Q) tabOk mix hd hf h) fun e s2 hq=>by
  cases e with
  | normal=>exact hK s2 hq
  | _=>exact hq
theorem wc {x:Operand} {b:Bool} (ht:b=true→WP Try.prog n k0 c s Q) (hf:b=false→WP Try.prog n k0 e s Q) (hx:ev s.sl x=.d (.bool b):=by rfl):WP Try.prog n k0 (.cond x c e) s Q:=WP.cond hx ht hf
end
theorem take_snoc {x:Str} {i:Nat} (h:i < x.length):x.take (i+1)=x.take i++[x[i]]:=List.take_succ_eq_append_getElem h
theorem fn103:FnOk Try.prog 103 19 [4] (bodyOf Try.f103):=⟨Try.f103,Try.func103,by kernel_rfl,by decide,by kernel_rfl,by kernel_rfl⟩
theorem s103 {o:Nat→Option AO} {nk:Nat} (xs:List Str) (g:FuncId) (fs cs:List SV) (p:Str→Bool) (hclo:∀ x∈xs,Spec Try.prog g (fs++[.d (D.str x)]++cs) o nk fun r' o' nk'=>r'=.d (.bool (p x))∧o'=o∧nk'=nk):Spec Try.prog 103 [.d (.sl 1 (xs.map .str)),.clo g fs cs] o nk (fun r' o' nk'=>r'=.d (.int .i64 (firstI p xs))∧o'=o∧nk'=nk):=by
 refine Spec.bd fun hbd=>?_;have hx:xs.length≤9223372036854775807:=by simpa [encVs_length] using hbd.1.1
 refine Spec.pure (fun _=>trivial) rfl (Spec.of_body fn103 (by simp) ?_);refine wr (ua (u_nil (WP.seq fun K2 hK2=>?_)));refine wr (um (un th22 ?_));refine um (u_nil (WP.block ?_));refine WP.loopL (ι:=Nat) (fun i=>⟨al [(0,.d (.sl 1 (xs.map .str))),(1,.clo g fs cs),(7,.d (.int .i64 (xs.map D.str).length)),(8,.d (.int .i64 i))],o,nk⟩) (fun i=>i≤xs.length∧∀ (j:Nat) (hj:j < xs.length),j < i→p xs[j]=false) (fun i=>xs.length - i) (fun i hA=>?_) 0 ?_ ?_
 ·
  obtain ⟨hle_i,hin_i⟩:=hA;refine wr ?_;refine ub ?_;refine u_nil ?_;refine WP.seq fun K5 hK5=>?_;refine wc (fun hc6=>?_) (fun hc6=>?_) <;> try simp only [Q0,Q1,Q2,Q3,Q4,Q5,Q6,Q7,Q8,ge_iff_le,gt_iff_lt] at hc6
  ·
   refine WP.skip (hK5 _ (WP.seq fun K7 hK7=>?_));refine WP.block (wr (um (ua (u_nil (wr ?_)))));refine u_step (o_moveV (v:=.clo _ _ _) rfl ?_);refine um (um ?_)
   refine u_step (o_ia_map rfl rfl th22 rfl th9 rfl (by omega) ?_)
   refine uL th9 ?_;refine u_step (o_sclo rfl (hclo _ (List.getElem_mem (by omega))) rfl ?_);refine u_nil ?_;refine wc (fun hc10=>?_) (fun hc10=>?_) <;> try simp only [Q0,Q1,Q2,Q3,Q4,Q5,Q6,Q7,Q8,ge_iff_le,gt_iff_lt] at hc10
   ·
    refine wr (um (ua (u_nil (WP.ret ?_))));refine ret_ok rfl ?_ (by omega) (fun _ _=>rfl);rw [firstI_at (by omega) hc10 hin_i]
   ·
    refine WP.skip (hK7 _ (WP.reg tabOk rfl ?_));refine ub (um (u_nil ?_));refine ⟨i+1,⟨by omega,?_⟩,by omega,?_⟩
    ·intro j hj h1;by_cases h2:j=i
     ·subst h2;exact hc10
     ·exact hin_i j hj (by omega)
    ·refine Le.al ?_;simp only [List.forall_mem_cons];exact ⟨rfl,rfl,rfl,cnt (by omega),by simp⟩
  ·
   refine WP.exit ?_;refine hK2 _ (wr (ua (u_nil (WP.ret ?_))));refine ret_ok rfl ?_ (by omega) (fun _ _=>rfl);rw [firstI_none fun j hj=>hin_i j hj (by omega)]
 ·
  simp
 ·
  refine Le.al ?_;simp only [List.forall_mem_cons];exact ⟨rfl,rfl,rfl,rfl,by simp⟩
theorem fn73:FnOk Try.prog 73 9 [4] (bodyOf Try.f73):=⟨Try.f73,Try.func73,by kernel_rfl,by decide,by kernel_rfl,by kernel_rfl⟩
theorem s73 {o:Nat→Option AO} {nk:Nat} (xs:List Str) (g:FuncId) (fs cs:List SV) (p:Str→Bool) (hclo:∀ x∈xs,Spec Try.prog g (fs++[.d (D.str x)]++cs) o nk fun r' o' nk'=>r'=.d (.bool (p x))∧o'=o∧nk'=nk):Spec Try.prog 73 [.d (.sl 1 (xs.map .str)),.clo g fs cs] o nk (fun r' o' nk'=>r'=.d (.bool (xs.any p))∧o'=o∧nk'=nk):=by
 refine Spec.pure (fun _=>trivial) rfl (Spec.of_body fn73 (by simp) ?_);refine wr (ua (u_nil (wr (um ?_))));refine u_step (o_moveV (v:=.clo _ _ _) rfl ?_);refine u_step (o_scall (s103 _ _ _ _ _ hclo) rfl ?_);refine ub (ua (u_nil (WP.ret ?_)));refine ret_ok rfl ?_ (by omega) (fun _ _=>rfl);rw [← firstI_nn]
theorem fn89:FnOk Try.prog 89 19 [4] (bodyOf Try.f89):=⟨Try.f89,Try.func89,by kernel_rfl,by decide,by kernel_rfl,by kernel_rfl⟩
theorem s89 {o:Nat→Option AO} {nk:Nat} (xs:List Val) (g:FuncId) (fs cs:List SV) (p:Val→Bool) (hclo:∀ x∈xs,Spec Try.prog g (fs++[.d (encV x)]++cs) o nk fun r' o' nk'=>r'=.d (.bool (p x))∧o'=o∧nk'=nk):Spec Try.prog 89 [.d (.sl 5 (encVs xs)),.clo g fs cs] o nk (fun r' o' nk'=>r'=.d (.int .i64 (firstI p xs))∧o'=o∧nk'=nk):=by
 refine Spec.bd fun hbd=>?_;have hx:xs.length≤9223372036854775807:=by simpa [encVs_length] using hbd.1.1
 refine Spec.pure (fun _=>trivial) rfl (Spec.of_body fn89 (by simp) ?_);refine wr (ua (u_nil (WP.seq fun K2 hK2=>?_)));refine wr (um (un th25 ?_));refine um (u_nil (WP.block ?_));refine WP.loopL (ι:=Nat) (fun i=>⟨al [(0,.d (.sl 5 (encVs xs))),(1,.clo g fs cs),(7,.d (.int .i64 (encVs xs).length)),(8,.d (.int .i64 i))],o,nk⟩) (fun i=>i≤xs.length∧∀ (j:Nat) (hj:j < xs.length),j < i→p xs[j]=false) (fun i=>xs.length - i) (fun i hA=>?_) 0 ?_ ?_
 ·
  obtain ⟨hle_i,hin_i⟩:=hA;refine wr ?_;refine ub ?_;refine u_nil ?_;refine WP.seq fun K5 hK5=>?_;refine wc (fun hc6=>?_) (fun hc6=>?_) <;> try simp only [Q0,Q1,Q2,Q3,Q4,Q5,Q6,Q7,Q8,ge_iff_le,gt_iff_lt] at hc6
  ·
   refine WP.skip (hK5 _ (WP.seq fun K7 hK7=>?_));refine WP.block (wr (um (ua (u_nil (wr ?_)))));refine u_step (o_moveV (v:=.clo _ _ _) rfl ?_);refine um (um ?_)
   first | refine u_step (o_ia_map rfl rfl th25 rfl th27 rfl (by omega) ?_) | refine u_step (o_ia_vs rfl rfl th25 rfl th27 rfl (by omega) ?_)
   refine uL th27 ?_;refine u_step (o_sclo rfl (hclo _ (List.getElem_mem (by omega))) rfl ?_);refine u_nil ?_;refine wc (fun hc10=>?_) (fun hc10=>?_) <;> try simp only [Q0,Q1,Q2,Q3,Q4,Q5,Q6,Q7,Q8,ge_iff_le,gt_iff_lt] at hc10
   ·
    refine wr (um (ua (u_nil (WP.ret ?_))));refine ret_ok rfl ?_ (by omega) (fun _ _=>rfl);rw [firstI_at (by omega) hc10 hin_i]
   ·
    refine WP.skip (hK7 _ (WP.reg tabOk rfl ?_));refine ub (um (u_nil ?_));refine ⟨i+1,⟨by omega,?_⟩,by omega,?_⟩
    ·intro j hj h1;by_cases h2:j=i
     ·subst h2;exact hc10
     ·exact hin_i j hj (by omega)
    ·refine Le.al ?_;simp only [List.forall_mem_cons];exact ⟨rfl,rfl,rfl,cnt (by omega),by simp⟩
  ·
   refine WP.exit ?_;refine hK2 _ (wr (ua (u_nil (WP.ret ?_))));refine ret_ok rfl ?_ (by omega) (fun _ _=>rfl);rw [firstI_none fun j hj=>hin_i j hj (by omega)]
 ·
  simp
 ·
  refine Le.al ?_;simp only [List.forall_mem_cons];exact ⟨rfl,rfl,rfl,rfl,by simp⟩
theorem fn59:FnOk Try.prog 59 9 [4] (bodyOf Try.f59):=⟨Try.f59,Try.func59,by kernel_rfl,by decide,by kernel_rfl,by kernel_rfl⟩
theorem s59 {o:Nat→Option AO} {nk:Nat} (xs:List Val) (g:FuncId) (fs cs:List SV) (p:Val→Bool) (hclo:∀ x∈xs,Spec Try.prog g (fs++[.d (encV x)]++cs) o nk fun r' o' nk'=>r'=.d (.bool (p x))∧o'=o∧nk'=nk):Spec Try.prog 59 [.d (.sl 5 (encVs xs)),.clo g fs cs] o nk (fun r' o' nk'=>r'=.d (.bool (xs.any p))∧o'=o∧nk'=nk):=by
 refine Spec.pure (fun _=>trivial) rfl (Spec.of_body fn59 (by simp) ?_);refine wr (ua (u_nil (wr (um ?_))));refine u_step (o_moveV (v:=.clo _ _ _) rfl ?_);refine u_step (o_scall (s89 _ _ _ _ _ hclo) rfl ?_);refine ub (ua (u_nil (WP.ret ?_)));refine ret_ok rfl ?_ (by omega) (fun _ _=>rfl);rw [← firstI_nn]
theorem fn85:FnOk Try.prog 85 19 [4] (bodyOf Try.f85):=⟨Try.f85,Try.func85,by kernel_rfl,by decide,by kernel_rfl,by kernel_rfl⟩
theorem s85 {o:Nat→Option AO} {nk:Nat} (xs:List Dlt) (g:FuncId) (fs cs:List SV) (p:Dlt→Bool) (hclo:∀ x∈xs,Spec Try.prog g (fs++[.d (encD x)]++cs) o nk fun r' o' nk'=>r'=.d (.bool (p x))∧o'=o∧nk'=nk):Spec Try.prog 85 [.d (.sl 8 (xs.map encD)),.clo g fs cs] o nk (fun r' o' nk'=>r'=.d (.int .i64 (firstI p xs))∧o'=o∧nk'=nk):=by
 refine Spec.bd fun hbd=>?_;have hx:xs.length≤9223372036854775807:=by simpa [encVs_length] using hbd.1.1
 refine Spec.pure (fun _=>trivial) rfl (Spec.of_body fn85 (by simp) ?_);refine wr (ua (u_nil (WP.seq fun K2 hK2=>?_)));refine wr (um (un th28 ?_));refine um (u_nil (WP.block ?_));refine WP.loopL (ι:=Nat) (fun i=>⟨al [(0,.d (.sl 8 (xs.map encD))),(1,.clo g fs cs),(7,.d (.int .i64 (xs.map encD).length)),(8,.d (.int .i64 i))],o,nk⟩) (fun i=>i≤xs.length∧∀ (j:Nat) (hj:j < xs.length),j < i→p xs[j]=false) (fun i=>xs.length - i) (fun i hA=>?_) 0 ?_ ?_
 ·
  obtain ⟨hle_i,hin_i⟩:=hA;refine wr ?_;refine ub ?_;refine u_nil ?_;refine WP.seq fun K5 hK5=>?_;refine wc (fun hc6=>?_) (fun hc6=>?_) <;> try simp only [Q0,Q1,Q2,Q3,Q4,Q5,Q6,Q7,Q8,ge_iff_le,gt_iff_lt] at hc6
  ·
   refine WP.skip (hK5 _ (WP.seq fun K7 hK7=>?_));refine WP.block (wr (um (ua (u_nil (wr ?_)))));refine u_step (o_moveV (v:=.clo _ _ _) rfl ?_);refine um (um ?_)
   refine u_step (o_ia_map rfl rfl th28 rfl th46 rfl (by omega) ?_)
   refine uL th46 ?_;refine u_step (o_sclo rfl (hclo _ (List.getElem_mem (by omega))) rfl ?_);refine u_nil ?_;refine wc (fun hc10=>?_) (fun hc10=>?_) <;> try simp only [Q0,Q1,Q2,Q3,Q4,Q5,Q6,Q7,Q8,ge_iff_le,gt_iff_lt] at hc10
   ·
    refine wr (um (ua (u_nil (WP.ret ?_))));refine ret_ok rfl ?_ (by omega) (fun _ _=>rfl);rw [firstI_at (by omega) hc10 hin_i]
   ·
    refine WP.skip (hK7 _ (WP.reg tabOk rfl ?_));refine ub (um (u_nil ?_));refine ⟨i+1,⟨by omega,?_⟩,by omega,?_⟩
    ·intro j hj h1;by_cases h2:j=i
     ·subst h2;exact hc10
     ·exact hin_i j hj (by omega)
    ·refine Le.al ?_;simp only [List.forall_mem_cons];exact ⟨rfl,rfl,rfl,cnt (by omega),by simp⟩
  ·
   refine WP.exit ?_;refine hK2 _ (wr (ua (u_nil (WP.ret ?_))));refine ret_ok rfl ?_ (by omega) (fun _ _=>rfl);rw [firstI_none fun j hj=>hin_i j hj (by omega)]
 ·
  simp
 ·
  refine Le.al ?_;simp only [List.forall_mem_cons];exact ⟨rfl,rfl,rfl,rfl,by simp⟩
theorem fn51:FnOk Try.prog 51 9 [4] (bodyOf Try.f51):=⟨Try.f51,Try.func51,by kernel_rfl,by decide,by kernel_rfl,by kernel_rfl⟩
theorem s51 {o:Nat→Option AO} {nk:Nat} (xs:List Dlt) (g:FuncId) (fs cs:List SV) (p:Dlt→Bool) (hclo:∀ x∈xs,Spec Try.prog g (fs++[.d (encD x)]++cs) o nk fun r' o' nk'=>r'=.d (.bool (p x))∧o'=o∧nk'=nk):Spec Try.prog 51 [.d (.sl 8 (xs.map encD)),.clo g fs cs] o nk (fun r' o' nk'=>r'=.d (.bool (xs.any p))∧o'=o∧nk'=nk):=by
 refine Spec.pure (fun _=>trivial) rfl (Spec.of_body fn51 (by simp) ?_);refine wr (ua (u_nil (wr (um ?_))));refine u_step (o_moveV (v:=.clo _ _ _) rfl ?_);refine u_step (o_scall (s85 _ _ _ _ _ hclo) rfl ?_);refine ub (ua (u_nil (WP.ret ?_)));refine ret_ok rfl ?_ (by omega) (fun _ _=>rfl);rw [← firstI_nn]
theorem PSpec.extern {P : Program} {f : FuncId} {fn : Func} {e : Array Value → Sem Value} {args : List SV} {x : D} (hf : P.funcs[f]? = some fn) (hname : (fn.name == "runtime.NumGoroutine") = false) (hb : fn.body.isNone = true) (hn : Extern.findNext fn = none) (he : Extern.find fn = some e)
    (h:∀ (w:World) (S:Nat→Prop) (γ:Nat→Value) (o:Nat→Option AO) (vs:List Value),vs.length=args.length→(∀ (i:Nat) (c:SV) (v:Value),args[i]?=some c→vs[i]?=some v→SR w S γ o c v)→∃ u,(e vs.toArray).run P w=.ok u w∧Rd w S x u):PSpec P f args (.d x):=by
  intro o nk w S γ vs h1 h2 h3 h4;obtain ⟨u,h5,h6⟩:=h w S γ o vs h2 h3;unfold Does;rw [run_callFunc_extern hf hname hb hn he,h5];exact ⟨.d x,o,nk,S,γ,⟨rfl,rfl,rfl⟩,h1,Tr.refl _ _ _ _ _,.d _ _ h6,trivial⟩
theorem s141 (s:Str) (c:Int):PSpec Try.prog 141 [.d (.str s),.d (.int .u8 c)] (.d (.int .i64 (Go.Lib.indexByte s c.toNat.toUInt8))):=
 PSpec.extern Try.func141 (by kernel_rfl) (by kernel_rfl) (by kernel_rfl) (e:=Extern.BytealgIndexByte.indexByte) (by kernel_rfl) fun w S γ o vs hl hr=>by
  match vs,hl with
  | [u,v],_=>
   cases hr 0 _ u rfl rfl with
   | d _ _ hu=>cases hu with
    | str=>cases hr 1 _ v rfl rfl with
     | d _ _ hv=>cases hv with
      | int=>exact ⟨_,Go.Lib.run_indexByteString _ _ _,.int _ _⟩
theorem s145 (s t:Str):PSpec Try.prog 145 [.d (.str s),.d (.str t)] (.d (.int .i64 (Go.Lib.compareBytes s t))):=
 PSpec.extern Try.func145 (by kernel_rfl) (by kernel_rfl) (by kernel_rfl) (e:=Extern.BytealgCompare.compare) (by kernel_rfl) fun w S γ o vs hl hr=>by
  match vs,hl with
  | [u,v],_=>
   cases hr 0 _ u rfl rfl with
   | d _ _ hu=>cases hu with
    | str=>cases hr 1 _ v rfl rfl with
     | d _ _ hv=>cases hv with
      | str=>exact ⟨_,Go.Lib.run_compareString _ _ _,.int _ _⟩
theorem fn136:FnOk Try.prog 136 8 [4] (bodyOf Try.f136):=⟨Try.f136,Try.func136,by kernel_rfl,by decide,by kernel_rfl,by kernel_rfl⟩
theorem s136 (s:Str) (c:Int):PSpec Try.prog 136 [.d (.str s),.d (.int .u8 c)] (.d (.int .i64 (Go.Lib.indexByte s c.toNat.toUInt8))):=by
 refine PSpec.of fn136 (by simp) fun o nk=>?_;refine wr (ua (u_nil (wr (um (um ?_)))));refine u_step (o_pcall (s141 _ _) rfl ?_);refine ua (u_nil (WP.ret ?_));refine ret_ok rfl ?_ (by omega) (fun _ _=>rfl);rfl
theorem fn123:FnOk Try.prog 123 18 [4] (bodyOf Try.f123):=⟨Try.f123,Try.func123,by kernel_rfl,by decide,by kernel_rfl,by kernel_rfl⟩
theorem s123 (s p:Str):PSpec Try.prog 123 [.d (.str s),.d (.str p)] (.d (.bool (p.isPrefixOf s))):=by
 refine PSpec.of fn123 (by simp) fun o nk=>?_;refine wr (ua (u_nil (wr (um ?_))));refine u_step (o_len_str rfl th9 rfl ?_);refine um ?_;refine u_step (o_len_str rfl th9 rfl ?_);refine ub (um ?_);apply gT
 ·rfl
 ·intro hg;exact pm
 apply gT
 ·rfl
 ·intro hg;exact pm
 apply gT
 ·rfl
 ·intro hg;try simp only [hg,ct,Bt]
  refine o_len_str rfl th9 rfl ⟨rfl,rfl,rfl⟩
 apply gT
 ·rfl
 ·intro hg;try simp only [hg,ct,Bt]
  have hg2:=hg;try simp only [Q0,Q1,Q2,Q3,Q4,Q5,Q6,Q9,Qa,Qb,Qc,Qd] at hg2
  refine o_sl_str rfl th9 rfl (bnd_nat (by simp at hg;omega)) rfl ⟨rfl,rfl,rfl⟩
 apply gT
 ·rfl
 ·intro hg;exact pm
 apply gT
 ·rfl
 ·intro hg;try simp only [hg,ct,Bt]
  exact ps
 refine uA (ua (u_nil (WP.ret ?_)));refine ret_ok rfl ?_ (by omega) (fun _ _=>rfl);refine congrArg D.bool ?_;rw [Bool.eq_iff_iff];simp only [List.drop_zero,Bool.and_eq_true,decide_eq_true_eq,List.isPrefixOf_iff_prefix,List.prefix_iff_eq_take];constructor
 ·rintro ⟨_,h⟩;exact h.symm
 ·intro h;refine ⟨?_,h.symm⟩;have:=congrArg List.length h;simp at this;omega
theorem fn101:FnOk Try.prog 101 8 [4] (bodyOf Try.f101):=⟨Try.f101,Try.func101,by kernel_rfl,by decide,by kernel_rfl,by kernel_rfl⟩
theorem s101 (s p:Str):PSpec Try.prog 101 [.d (.str s),.d (.str p)] (.d (.bool (p.isPrefixOf s))):=by
 refine PSpec.of fn101 (by simp) fun o nk=>?_;refine wr (ua (u_nil (wr (um (um ?_)))));refine u_step (o_pcall (s123 _ _) rfl ?_);refine ua (u_nil (WP.ret ?_));refine ret_ok rfl ?_ (by omega) (fun _ _=>rfl);rfl
theorem take_snoc2 {ns:List Str} {i:Nat} (h:i < ns.length):ns.take (i+1)=ns.take i++[ns[i]]:=List.take_succ_eq_append_getElem h
theorem indexByte_nn (s:Str) (c:UInt8):decide (0≤Go.Lib.indexByte s c)=decide (c∈s):=by
 induction s with
 | nil=>simp [Go.Lib.indexByte]
 | cons x s ih=>
  rw [Bool.eq_iff_iff] at ih ⊢;simp only [decide_eq_true_eq] at ih ⊢;have h1:=Go.Lib.indexByte_ge s c;simp only [Go.Lib.indexByte,List.mem_cons];by_cases hx:x=c
  ·subst hx;simp
  ·have hx':¬ c=x:=fun e=>hx e.symm;simp only [beq_iff_eq,hx,if_false,hx',false_or];rw [← ih];split <;> omega
theorem fn134:FnOk Try.prog 134 143 [4] (bodyOf Try.f134):=⟨Try.f134,Try.func134,by kernel_rfl,by decide,by kernel_rfl,by kernel_rfl⟩
theorem s134 (s:Str):PSpec Try.prog 134 [.d (.str s),.d (.str [46])] (.d (.int .i64 (Go.Lib.indexByte s 46))):=by
 refine PSpec.of fn134 (by simp) fun o nk=>?_;refine wr (ua (u_nil (wr (um ?_))));refine u_step (o_len_str rfl th9 rfl ?_);refine ua (u_nil (WP.seq fun K3 hK3=>?_));refine WP.block (wr (um (ub (um ?_))));apply gF
 ·rfl
 ·intro hg;exact pm
 apply gF
 ·rfl
 ·intro hg;exact pm
 apply gF
 ·rfl
 ·intro hg;try simp only [hg,ct,Bt]
  exact ps
 refine uO ?_;refine ua ?_;refine u_nil ?_;refine wc (fun hc5=>?_) (fun hc5=>?_) <;> try simp only [Q0,Q1,Q2,Q3,Q4,Q5,Q6,Q7,Q8,ge_iff_le,gt_iff_lt] at hc5
 ·
  refine wr (ua (u_nil (WP.ret ?_)));refine ret_ok rfl ?_ (by omega) (fun _ _=>rfl);have hs:[46]=s:=by simpa using hc5
  subst hs;rfl
 ·
  refine wr ?_;refine um ?_;refine ub ?_;refine ua ?_;refine u_nil ?_;refine wc (fun hc8=>?_) (fun hc8=>?_) <;> try simp only [Q0,Q1,Q2,Q3,Q4,Q5,Q6,Q7,Q8,ge_iff_le,gt_iff_lt] at hc8
  ·
   refine wr (um (um ?_));refine u_step (o_ix rfl rfl th9 rfl ?_ ?_ ?_)
   ·decide
   ·decide
   refine u_step (o_pcall (s136 _ _) rfl ?_);refine ua (u_nil (WP.ret ?_));refine ret_ok rfl ?_ (by omega) (fun _ _=>rfl);rfl
  ·
   exact absurd hc8 (by decide)
theorem fn124:FnOk Try.prog 124 8 [4] (bodyOf Try.f124):=⟨Try.f124,Try.func124,by kernel_rfl,by decide,by kernel_rfl,by kernel_rfl⟩
theorem s124 (s:Str):PSpec Try.prog 124 [.d (.str s),.d (.str [46])] (.d (.int .i64 (Go.Lib.indexByte s 46))):=by
 refine PSpec.of fn124 (by simp) fun o nk=>?_;refine wr (ua (u_nil (wr (um (um ?_)))));refine u_step (o_pcall (s134 _) rfl ?_);refine ua (u_nil (WP.ret ?_));refine ret_ok rfl ?_ (by omega) (fun _ _=>rfl);rfl
theorem fn102:FnOk Try.prog 102 9 [4] (bodyOf Try.f102):=⟨Try.f102,Try.func102,by kernel_rfl,by decide,by kernel_rfl,by kernel_rfl⟩
theorem s102 (s:Str):PSpec Try.prog 102 [.d (.str s),.d (.str [46])] (.d (.bool (decide ((46:UInt8)∈s)))):=by
 refine PSpec.of fn102 (by simp) fun o nk=>?_;refine wr (ua (u_nil (wr (um (um ?_)))));refine u_step (o_pcall (s124 _) rfl ?_);refine ub (ua (u_nil (WP.ret ?_)));refine ret_ok rfl ?_ (by omega) (fun _ _=>rfl);rw [← indexByte_nn]
theorem fn72:FnOk Try.prog 72 21 [2] (bodyOf Try.f72):=⟨Try.f72,Try.func72,by kernel_rfl,by decide,by kernel_rfl,by kernel_rfl⟩
theorem s72 (x:Str):PSpec Try.prog 72 [.d (.str x)] (.d (.bool (nameV x))):=by
 refine PSpec.of fn72 (by simp) fun o nk=>?_;refine wr (ua (u_nil (wr (um ?_))));refine u_step (o_len_str rfl th9 rfl ?_);refine ub (um ?_);apply gT
 ·rfl
 ·intro hg;exact pm
 apply gT
 ·rfl
 ·intro hg;try simp only [hg,ct,Bt]
  refine o_len_str rfl th9 rfl ⟨rfl,rfl,rfl⟩
 apply gT
 ·rfl
 ·intro hg;try simp only [hg,ct,Bt]
  exact pb
 refine uA (um ?_);apply gT
 ·rfl
 ·intro hg;exact pm
 apply gT
 ·rfl
 ·intro hg;try simp only [hg,ct,Bt]
  refine o_pcall (s101 _ _) rfl ⟨rfl,rfl,rfl⟩
 apply gT
 ·rfl
 ·intro hg;try simp only [hg,ct,Bt]
  exact pN
 refine uA (um ?_);apply gT
 ·rfl
 ·intro hg;exact pm
 apply gT
 ·rfl
 ·intro hg;try simp only [hg,ct,Bt]
  refine o_pcall (s102 _) rfl ⟨rfl,rfl,rfl⟩
 apply gT
 ·rfl
 ·intro hg;try simp only [hg,ct,Bt]
  exact pN
 refine uA (ua (u_nil (WP.ret ?_)));refine ret_ok rfl ?_ (by omega) (fun _ _=>rfl);refine congrArg D.bool ?_;rw [Bool.eq_iff_iff];simp only [nameV,Bool.and_eq_true,decide_eq_true_eq,Bool.not_eq_true',decide_eq_false_iff_not];have h1:List.isPrefixOf [36] x=false↔x[0]?≠some 36:=by
  cases x with
  | nil=>simp [List.isPrefixOf]
  | cons c x=>
   simp only [List.isPrefixOf,List.getElem?_cons_zero,Bool.and_true,ne_eq,Option.some.injEq];by_cases h:c=36
   ·subst h;simp
   ·have h0:((36:UInt8) == c)=false:=by simpa using fun e=>h e.symm
    simp [h0,h]
 rw [h1];constructor
 ·rintro ⟨⟨⟨h2,h3⟩,h4⟩,h5⟩;exact ⟨by omega,by omega,h4,h5⟩
 ·rintro ⟨h2,h3,h4,h5⟩;exact ⟨⟨⟨by omega,by omega⟩,h4⟩,h5⟩
theorem fn58:FnOk Try.prog 58 24 [2] (bodyOf Try.f58):=⟨Try.f58,Try.func58,by kernel_rfl,by decide,by kernel_rfl,by kernel_rfl⟩
theorem s58 (ns:List Str):PSpec Try.prog 58 [.d (.sl 1 (ns.map .str))] (.d (.bool (namesV ns))):=by
 refine PSpec.bd fun hbd=>?_;have hx:ns.length≤9223372036854775807:=by simpa using hbd.1.1
 refine PSpec.of fn58 (by simp) fun o nk=>?_;refine wr (ua (u_nil (wr ?_)));refine u_step (g_mm fun o3 hb3 hk3=>?_);refine u_step (o_assignV (v:=.raw _) rfl ?_);refine u_nil (WP.seq fun K4 hK4=>?_);refine wr (um (un th22 ?_));refine um (u_nil (WP.block ?_));refine WP.loopL (ι:=Nat×(Nat→Option AO)) (fun ⟨i,o2⟩=>⟨al [(3,.raw nk),(7,.d (.sl 1 (ns.map .str))),(8,.d (.int .i64 (ns.map D.str).length)),(9,.d (.int .i64 i))],o2,(nk+1)⟩) (fun ⟨i,o2⟩=>i≤ns.length∧o2 nk=some (.raw (setOb (ns.take i)))∧(∀ t,t < nk→o2 t=o t)∧(ns.take i).all nameV=true∧(ns.take i).Nodup) (fun ⟨i,o2⟩=>ns.length - i) (fun ⟨i,o2⟩ hA=>?_) ⟨0,o3⟩ ?_ ?_
 ·
  obtain ⟨hle,hob,hfr,hal,hnd⟩:=hA;refine wr ?_;refine ub ?_;refine u_nil ?_;refine WP.seq fun K7 hK7=>?_;refine wc (fun hc8=>?_) (fun hc8=>?_) <;> try simp only [Q0,Q1,Q2,Q3,Q4,Q5,Q6,Q7,Q8,ge_iff_le,gt_iff_lt] at hc8
  ·
   refine WP.skip (hK7 _ (WP.seq fun K9 hK9=>?_));refine WP.block (wr ?_)
   refine u_step (o_ia_map rfl rfl th22 rfl th9 rfl (by omega) ?_)
   refine uL th9 ?_;refine ua (u_nil (WP.seq fun K11 hK11=>?_));refine wr (um ?_);refine u_step (o_pcall (s72 _) rfl ?_);refine uN (um ?_);apply gF
   ·rfl
   ·intro hg;refine o_moveV (v:=.raw _) rfl ⟨rfl,rfl,rfl⟩
   apply gF
   ·rfl
   ·intro hg;exact pm
   apply gF
   ·rfl
   ·intro hg;try simp only [hg,ct,Bt]
    refine o_lookup rfl rfl th102 rfl th9 rfl th4 rfl rfl hob ⟨rfl,rfl,rfl⟩
   refine uO ?_;refine u_nil ?_;refine wc (fun hc13=>?_) (fun hc13=>?_) <;> try simp only [Q0,Q1,Q2,Q3,Q4,Q5,Q6,Q7,Q8,ge_iff_le,gt_iff_lt] at hc13
   ·
    refine wr (ua (u_nil (WP.ret ?_)));refine ret_ok rfl ?_ (by omega) (fun t ht=>(hfr t (by omega)));rw [names_bad (by omega) hc13]
   ·
    refine WP.skip (hK11 _ (WP.reg tabOk rfl ?_));refine u_step (o_moveV (v:=.raw _) rfl ?_);refine um ?_;refine u_step0 (g_mu rfl rfl rfl th102 rfl th9 rfl hob (by simpa using (Bool.or_eq_false_iff.1 hc13).2) fun o15 hb15 hk15=>?_);refine u_nil (hK9 _ (WP.reg tabOk rfl ?_));refine ub (um (u_nil ?_));have hc:=Bool.or_eq_false_iff.1 hc13;refine ⟨⟨i+1,o15⟩,⟨by omega,?_,(fun t ht=>(hk15 t (by omega)).trans ((hfr t (by omega)))),?_,?_⟩,by simp only;omega,?_⟩
    ·rw [take_snoc2 (by omega)];exact hb15
    ·rw [all_snoc (by omega),hal];simpa using hc.1
    ·exact nodup_snoc (by omega) hnd (by simpa using hc.2)
    ·refine Le.al ?_;simp only [List.forall_mem_cons];exact ⟨rfl,rfl,rfl,cnt (by omega),by simp⟩
  ·
   refine WP.exit ?_;refine hK4 _ (wr (ua (u_nil (WP.ret ?_))));refine ret_ok rfl ?_ (by omega) (fun t ht=>(hfr t (by omega)));rw [names_good (by rwa [List.take_of_length_le (by omega)] at hal) (by rwa [List.take_of_length_le (by omega)] at hnd)]
 ·
  refine ⟨by simp,hb3,(fun t ht=>(hk3 t (by omega))),by simp,by simp⟩
 ·
  refine Le.al ?_;simp only [List.forall_mem_cons];exact ⟨rfl,rfl,rfl,rfl,by simp⟩
theorem fn60:FnOk Try.prog 60 6 [2] (bodyOf Try.f60):=⟨Try.f60,Try.func60,by kernel_rfl,by decide,by kernel_rfl,by kernel_rfl⟩
theorem s60 (x:Val) (h76:PSpec Try.prog 34 [.d (encV x)] (.d (.bool (mayV x)))):PSpec Try.prog 60 [.d (encV x)] (.d (.bool (!mayV x))):=by
 obtain ⟨kd,it,tx,xs,ns⟩:=x;refine PSpec.of fn60 (by simp) fun o nk=>?_;refine wr ?_;refine u_step (g_box rfl fun o2 hb2 hk2=>?_);refine ua (u_nil (wr (ug th27 hb2 ?_)));refine u_step (o_pcall (h76) rfl ?_);refine uN (ua (u_nil (WP.ret ?_)));refine ret_ok rfl ?_ (by omega) (fun t ht=>(hk2 t (by omega)));rfl
theorem fn34:FnOk Try.prog 34 109 [2] (bodyOf Try.f34):=⟨Try.f34,Try.func34,by kernel_rfl,by decide,by kernel_rfl,by kernel_rfl⟩
theorem s34A (m:Nat):∀ v:Val,SizeOf.sizeOf v < m→PSpec Try.prog 34 [.d (encV v)] (.d (.bool (mayV v))):=by
 induction m with
 | zero=>intros;omega
 | succ m ih=>
  rintro ⟨kd,it,tx,xs,ns⟩ hv;refine PSpec.bd fun hbd=>?_;refine PSpec.of fn34 (by simp) fun o nk=>?_;refine wr ?_;refine u_step (g_box rfl fun o2 hb2 hk2=>?_);refine ua (u_nil (wr (uf th27 th3 hb2 ?_)));refine ul th3 hb2 ?_;refine ub (um ?_);apply gF
  ·rfl
  ·intro hg;exact pf th27 th3 hb2
  apply gF
  ·rfl
  ·intro hg;try simp only [hg,ct,Bt]
   exact pl th3 hb2
  apply gF
  ·rfl
  ·intro hg;try simp only [hg,ct,Bt]
   exact pb
  refine uO (ua (u_nil (wr (uf th27 th3 hb2 ?_))));refine ul th3 hb2 ?_;refine ub (um ?_);apply gF
  ·rfl
  ·intro hg;exact pf th27 th3 hb2
  apply gF
  ·rfl
  ·intro hg;try simp only [hg,ct,Bt]
   exact pl th3 hb2
  apply gF
  ·rfl
  ·intro hg;try simp only [hg,ct,Bt]
   exact pb
  refine uO (ua (u_nil (wr (uf th27 th3 hb2 ?_))));refine ul th3 hb2 ?_;refine ub (um ?_);apply gF
  ·rfl
  ·intro hg;exact pf th27 th3 hb2
  apply gF
  ·rfl
  ·intro hg;try simp only [hg,ct,Bt]
   exact pl th3 hb2
  apply gF
  ·rfl
  ·intro hg;try simp only [hg,ct,Bt]
   exact pb
  refine uO (ua (u_nil (WP.seq fun K6 hK6=>?_)));refine WP.block (wr (uf th27 th3 hb2 ?_));refine ul th3 hb2 ?_;refine ub (um ?_);apply gF
  ·rfl
  ·intro hg;exact pf th27 th3 hb2
  apply gF
  ·rfl
  ·intro hg;try simp only [hg,ct,Bt]
   exact pl th3 hb2
  apply gF
  ·rfl
  ·intro hg;try simp only [hg,ct,Bt]
   exact pb
  refine uO ?_;refine ua ?_;refine u_nil ?_;refine wc (fun hc8=>?_) (fun hc8=>?_) <;> try simp only [Q0,Q1,Q2,Q3,Q4,Q5,Q6,Q7,Q8,ge_iff_le,gt_iff_lt] at hc8
  ·
   refine wr (ua (u_nil (WP.ret ?_)));refine ret_ok rfl ?_ (by omega) (fun t ht=>(hk2 t (by omega)));clear hK6;refine congrArg D.bool ?_;have e1:=encVs_length xs;clear hbd ih hv;rw [Bool.eq_iff_iff];have hkd:kd < 1∨7 < kd∨kd=1∨kd=2∨kd=3∨kd=4∨kd=5∨kd=6∨kd=7:=by omega
   rcases hkd with h | h | rfl | rfl | rfl | rfl | rfl | rfl | rfl <;> simp_all [mayV,maysV_all,kindOk,namesV]
   all_goals grind
  ·
   refine WP.seq fun K10 hK10=>?_;refine wr (uf th27 th25 hb2 ?_);refine ul th25 hb2 ?_;refine un th25 ?_;refine ub (um ?_);apply gT
   ·rfl
   ·intro hg;exact pm
   apply gT
   ·rfl
   ·intro hg;try simp only [hg,ct,Bt]
    exact pN
   refine uA ?_;refine ua ?_;refine u_nil ?_;refine wc (fun hc12=>?_) (fun hc12=>?_) <;> try simp only [Q0,Q1,Q2,Q3,Q4,Q5,Q6,Q7,Q8,ge_iff_le,gt_iff_lt] at hc12
   ·
    refine WP.skip ?_;refine hK10 _ ?_;refine wc (fun hc13=>?_) (fun hc13=>?_) <;> try simp only [Q0,Q1,Q2,Q3,Q4,Q5,Q6,Q7,Q8,ge_iff_le,gt_iff_lt] at hc13
    ·
     refine wr (ua (u_nil (WP.ret ?_)));refine ret_ok rfl ?_ (by omega) (fun t ht=>(hk2 t (by omega)));clear hK6 hK10;refine congrArg D.bool ?_;have e1:=encVs_length xs;clear hbd ih hv;rw [Bool.eq_iff_iff];have hkd:kd < 1∨7 < kd∨kd=1∨kd=2∨kd=3∨kd=4∨kd=5∨kd=6∨kd=7:=by omega
     rcases hkd with h | h | rfl | rfl | rfl | rfl | rfl | rfl | rfl <;> simp_all [mayV,maysV_all,kindOk,namesV]
     all_goals grind
    ·
     refine wr (uf th27 th3 hb2 ?_);refine ul th3 hb2 ?_;refine ub (um ?_);apply gT
     ·rfl
     ·intro hg;exact pf th27 th3 hb2
     apply gT
     ·rfl
     ·intro hg;try simp only [hg,ct,Bt]
      exact pl th3 hb2
     apply gT
     ·rfl
     ·intro hg;try simp only [hg,ct,Bt]
      exact pb
     refine uA (um ?_);apply gT
     ·rfl
     ·intro hg;exact pf th27 th3 hb2
     apply gT
     ·rfl
     ·intro hg;try simp only [hg,ct,Bt]
      exact pl th3 hb2
     apply gT
     ·rfl
     ·intro hg;try simp only [hg,ct,Bt]
      exact pb
     refine uA ?_;refine ua ?_;refine u_nil ?_;refine wc (fun hc16=>?_) (fun hc16=>?_) <;> try simp only [Q0,Q1,Q2,Q3,Q4,Q5,Q6,Q7,Q8,ge_iff_le,gt_iff_lt] at hc16
     ·
      refine wr (ua (u_nil (WP.ret ?_)));refine ret_ok rfl ?_ (by omega) (fun t ht=>(hk2 t (by omega)));clear hK6 hK10;refine congrArg D.bool ?_;have e1:=encVs_length xs;clear hbd ih hv;rw [Bool.eq_iff_iff];have hkd:kd < 1∨7 < kd∨kd=1∨kd=2∨kd=3∨kd=4∨kd=5∨kd=6∨kd=7:=by omega
      rcases hkd with h | h | rfl | rfl | rfl | rfl | rfl | rfl | rfl <;> simp_all [mayV,maysV_all,kindOk,namesV]
      all_goals grind
     ·
      refine wr (uf th27 th3 hb2 ?_);refine ul th3 hb2 ?_;refine ub (um ?_);apply gT
      ·rfl
      ·intro hg;exact pf th27 th22 hb2
      apply gT
      ·rfl
      ·intro hg;try simp only [hg,ct,Bt]
       exact pl th22 hb2
      apply gT
      ·rfl
      ·intro hg;try simp only [hg,ct,Bt]
       exact pn th22
      apply gT
      ·rfl
      ·intro hg;try simp only [hg,ct,Bt]
       exact pb
      refine uA ?_;refine ua ?_;refine u_nil ?_;refine wc (fun hc19=>?_) (fun hc19=>?_) <;> try simp only [Q0,Q1,Q2,Q3,Q4,Q5,Q6,Q7,Q8,ge_iff_le,gt_iff_lt] at hc19
      ·
       refine wr (ua (u_nil (WP.ret ?_)));refine ret_ok rfl ?_ (by omega) (fun t ht=>(hk2 t (by omega)));clear hK6 hK10;refine congrArg D.bool ?_;have e1:=encVs_length xs;clear hbd ih hv;rw [Bool.eq_iff_iff];have hkd:kd < 1∨7 < kd∨kd=1∨kd=2∨kd=3∨kd=4∨kd=5∨kd=6∨kd=7:=by omega
       rcases hkd with h | h | rfl | rfl | rfl | rfl | rfl | rfl | rfl <;> simp_all [mayV,maysV_all,kindOk,namesV]
       all_goals grind
      ·
       refine wr (uf th27 th3 hb2 ?_);refine ul th3 hb2 ?_;refine ub (um ?_);apply gT
       ·rfl
       ·intro hg;exact pf th27 th22 hb2
       apply gT
       ·rfl
       ·intro hg;try simp only [hg,ct,Bt]
        exact pl th22 hb2
       apply gT
       ·rfl
       ·intro hg;try simp only [hg,ct,Bt]
        exact pn th22
       apply gT
       ·rfl
       ·intro hg;exact pf th27 th25 hb2
       apply gT
       ·rfl
       ·intro hg;try simp only [hg,ct,Bt]
        exact pl th25 hb2
       apply gT
       ·rfl
       ·intro hg;try simp only [hg,ct,Bt]
        exact pn th25
       apply gT
       ·rfl
       ·intro hg;try simp only [hg,ct,Bt]
        exact pb
       apply gT
       ·rfl
       ·intro hg;try simp only [hg,ct,Bt]
        exact pm
       apply u_guard
       ·exact GC.cf _ _
       ·intro hg;exact pf th27 th22 hb2
       apply u_guard
       ·exact GC.cf _ _
       ·intro hg;try simp only [hg,ct,Bt]
        exact pl th22 hb2
       apply u_guard
       ·exact GC.cf _ _
       ·intro hg;try simp only [hg,ct,Bt]
        refine o_pcall (s58 ns) rfl ⟨rfl,rfl,rfl⟩
       apply u_guard
       ·exact GC.cf _ _
       ·intro hg;try simp only [hg,ct,Bt]
        exact pN
       apply gT
       ·rfl
       ·intro hg;try simp only [hg,ct,Bt]
        exact pO
       refine uA ?_;refine ua ?_;refine u_nil ?_;refine wc (fun hc22=>?_) (fun hc22=>?_) <;> try simp only [Q0,Q1,Q2,Q3,Q4,Q5,Q6,Q7,Q8,ge_iff_le,gt_iff_lt] at hc22
       ·
        refine wr (ua (u_nil (WP.ret ?_)));refine ret_ok rfl ?_ (by omega) (fun t ht=>(hk2 t (by omega)));clear hK6 hK10;refine congrArg D.bool ?_;have e1:=encVs_length xs;clear hbd ih hv;rw [Bool.eq_iff_iff];have hkd:kd < 1∨7 < kd∨kd=1∨kd=2∨kd=3∨kd=4∨kd=5∨kd=6∨kd=7:=by omega
        rcases hkd with h | h | rfl | rfl | rfl | rfl | rfl | rfl | rfl <;> simp_all [mayV,maysV_all,kindOk,namesV]
        all_goals grind
       ·
        refine WP.skip (hK6 _ (wr (uf th27 th25 hb2 ?_)));refine ul th25 hb2 ?_;refine u_step (o_scall (s59 xs 60 [] [] (fun x=>!mayV x) (fun x hx=>s60 x (ih x (by obtain ⟨j,hj,rfl⟩:=List.mem_iff_getElem.1 hx;exact items_lt' hj hv)) _ _)) rfl ?_);refine uN (ua (u_nil (WP.ret ?_)));refine ret_ok rfl ?_ (by omega) (fun t ht=>(hk2 t (by omega)));clear hK6 hK10;refine congrArg D.bool ?_;have e1:=encVs_length xs;clear hbd ih hv;rw [Bool.eq_iff_iff];have hkd:kd < 1∨7 < kd∨kd=1∨kd=2∨kd=3∨kd=4∨kd=5∨kd=6∨kd=7:=by omega
        rcases hkd with h | h | rfl | rfl | rfl | rfl | rfl | rfl | rfl <;> simp_all [mayV,maysV_all,kindOk,namesV]
        all_goals grind
   ·
    refine wr (uf th27 th3 hb2 ?_);refine ul th3 hb2 ?_;refine ub (um ?_);apply gT
    ·rfl
    ·intro hg;exact pm
    apply gT
    ·rfl
    ·intro hg;try simp only [hg,ct,Bt]
     exact pN
    refine uA ?_;refine ua ?_;refine u_nil ?_;refine wc (fun hc26=>?_) (fun hc26=>?_) <;> try simp only [Q0,Q1,Q2,Q3,Q4,Q5,Q6,Q7,Q8,ge_iff_le,gt_iff_lt] at hc26
    ·
     refine WP.skip ?_;refine hK10 _ ?_;refine wc (fun hc27=>?_) (fun hc27=>?_) <;> try simp only [Q0,Q1,Q2,Q3,Q4,Q5,Q6,Q7,Q8,ge_iff_le,gt_iff_lt] at hc27
     ·
      refine wr (ua (u_nil (WP.ret ?_)));refine ret_ok rfl ?_ (by omega) (fun t ht=>(hk2 t (by omega)));clear hK6 hK10;refine congrArg D.bool ?_;have e1:=encVs_length xs;clear hbd ih hv;rw [Bool.eq_iff_iff];have hkd:kd < 1∨7 < kd∨kd=1∨kd=2∨kd=3∨kd=4∨kd=5∨kd=6∨kd=7:=by omega
      rcases hkd with h | h | rfl | rfl | rfl | rfl | rfl | rfl | rfl <;> simp_all [mayV,maysV_all,kindOk,namesV]
      all_goals grind
     ·
      refine wr (uf th27 th3 hb2 ?_);refine ul th3 hb2 ?_;refine ub (um ?_);apply gT
      ·rfl
      ·intro hg;exact pf th27 th3 hb2
      apply gT
      ·rfl
      ·intro hg;try simp only [hg,ct,Bt]
       exact pl th3 hb2
      apply gT
      ·rfl
      ·intro hg;try simp only [hg,ct,Bt]
       exact pb
      refine uA (um ?_);apply gT
      ·rfl
      ·intro hg;exact pf th27 th3 hb2
      apply gT
      ·rfl
      ·intro hg;try simp only [hg,ct,Bt]
       exact pl th3 hb2
      apply gT
      ·rfl
      ·intro hg;try simp only [hg,ct,Bt]
       exact pb
      refine uA ?_;refine ua ?_;refine u_nil ?_;refine wc (fun hc30=>?_) (fun hc30=>?_) <;> try simp only [Q0,Q1,Q2,Q3,Q4,Q5,Q6,Q7,Q8,ge_iff_le,gt_iff_lt] at hc30
      ·
       refine wr (ua (u_nil (WP.ret ?_)));refine ret_ok rfl ?_ (by omega) (fun t ht=>(hk2 t (by omega)));clear hK6 hK10;refine congrArg D.bool ?_;have e1:=encVs_length xs;clear hbd ih hv;rw [Bool.eq_iff_iff];have hkd:kd < 1∨7 < kd∨kd=1∨kd=2∨kd=3∨kd=4∨kd=5∨kd=6∨kd=7:=by omega
       rcases hkd with h | h | rfl | rfl | rfl | rfl | rfl | rfl | rfl <;> simp_all [mayV,maysV_all,kindOk,namesV]
       all_goals grind
      ·
       refine wr (uf th27 th3 hb2 ?_);refine ul th3 hb2 ?_;refine ub (um ?_);apply gT
       ·rfl
       ·intro hg;exact pf th27 th22 hb2
       apply gT
       ·rfl
       ·intro hg;try simp only [hg,ct,Bt]
        exact pl th22 hb2
       apply gT
       ·rfl
       ·intro hg;try simp only [hg,ct,Bt]
        exact pn th22
       apply gT
       ·rfl
       ·intro hg;try simp only [hg,ct,Bt]
        exact pb
       refine uA ?_;refine ua ?_;refine u_nil ?_;refine wc (fun hc33=>?_) (fun hc33=>?_) <;> try simp only [Q0,Q1,Q2,Q3,Q4,Q5,Q6,Q7,Q8,ge_iff_le,gt_iff_lt] at hc33
       ·
        refine wr (ua (u_nil (WP.ret ?_)));refine ret_ok rfl ?_ (by omega) (fun t ht=>(hk2 t (by omega)));clear hK6 hK10;refine congrArg D.bool ?_;have e1:=encVs_length xs;clear hbd ih hv;rw [Bool.eq_iff_iff];have hkd:kd < 1∨7 < kd∨kd=1∨kd=2∨kd=3∨kd=4∨kd=5∨kd=6∨kd=7:=by omega
        rcases hkd with h | h | rfl | rfl | rfl | rfl | rfl | rfl | rfl <;> simp_all [mayV,maysV_all,kindOk,namesV]
        all_goals grind
       ·
        refine wr (uf th27 th3 hb2 ?_);refine ul th3 hb2 ?_;refine ub (um ?_);apply gT
        ·rfl
        ·intro hg;exact pf th27 th22 hb2
        apply gT
        ·rfl
        ·intro hg;try simp only [hg,ct,Bt]
         exact pl th22 hb2
        apply gT
        ·rfl
        ·intro hg;try simp only [hg,ct,Bt]
         exact pn th22
        apply gT
        ·rfl
        ·intro hg;exact pf th27 th25 hb2
        apply gT
        ·rfl
        ·intro hg;try simp only [hg,ct,Bt]
         exact pl th25 hb2
        apply gT
        ·rfl
        ·intro hg;try simp only [hg,ct,Bt]
         exact pn th25
        apply gT
        ·rfl
        ·intro hg;try simp only [hg,ct,Bt]
         exact pb
        apply gT
        ·rfl
        ·intro hg;try simp only [hg,ct,Bt]
         exact pm
        apply u_guard
        ·exact GC.cf _ _
        ·intro hg;exact pf th27 th22 hb2
        apply u_guard
        ·exact GC.cf _ _
        ·intro hg;try simp only [hg,ct,Bt]
         exact pl th22 hb2
        apply u_guard
        ·exact GC.cf _ _
        ·intro hg;try simp only [hg,ct,Bt]
         refine o_pcall (s58 ns) rfl ⟨rfl,rfl,rfl⟩
        apply u_guard
        ·exact GC.cf _ _
        ·intro hg;try simp only [hg,ct,Bt]
         exact pN
        apply gT
        ·rfl
        ·intro hg;try simp only [hg,ct,Bt]
         exact pO
        refine uA ?_;refine ua ?_;refine u_nil ?_;refine wc (fun hc36=>?_) (fun hc36=>?_) <;> try simp only [Q0,Q1,Q2,Q3,Q4,Q5,Q6,Q7,Q8,ge_iff_le,gt_iff_lt] at hc36
        ·
         refine wr (ua (u_nil (WP.ret ?_)));refine ret_ok rfl ?_ (by omega) (fun t ht=>(hk2 t (by omega)));clear hK6 hK10;refine congrArg D.bool ?_;have e1:=encVs_length xs;clear hbd ih hv;rw [Bool.eq_iff_iff];have hkd:kd < 1∨7 < kd∨kd=1∨kd=2∨kd=3∨kd=4∨kd=5∨kd=6∨kd=7:=by omega
         rcases hkd with h | h | rfl | rfl | rfl | rfl | rfl | rfl | rfl <;> simp_all [mayV,maysV_all,kindOk,namesV]
         all_goals grind
        ·
         refine WP.skip (hK6 _ (wr (uf th27 th25 hb2 ?_)));refine ul th25 hb2 ?_;refine u_step (o_scall (s59 xs 60 [] [] (fun x=>!mayV x) (fun x hx=>s60 x (ih x (by obtain ⟨j,hj,rfl⟩:=List.mem_iff_getElem.1 hx;exact items_lt' hj hv)) _ _)) rfl ?_);refine uN (ua (u_nil (WP.ret ?_)));refine ret_ok rfl ?_ (by omega) (fun t ht=>(hk2 t (by omega)));clear hK6 hK10;refine congrArg D.bool ?_;have e1:=encVs_length xs;clear hbd ih hv;rw [Bool.eq_iff_iff];have hkd:kd < 1∨7 < kd∨kd=1∨kd=2∨kd=3∨kd=4∨kd=5∨kd=6∨kd=7:=by omega
         rcases hkd with h | h | rfl | rfl | rfl | rfl | rfl | rfl | rfl <;> simp_all [mayV,maysV_all,kindOk,namesV]
         all_goals grind
    ·
     refine WP.reg tabOk rfl ?_;refine uf th27 th9 hb2 ?_;refine ul th9 hb2 ?_;refine u_step (o_bin_str rfl (show _=SV.d (.str []) from rfl) rfl ?_);refine um ?_;apply gT
     ·rfl
     ·intro hg;exact pm
     apply gT
     ·rfl
     ·intro hg;try simp only [hg,ct,Bt]
      exact pN
     refine uA ?_;refine ua ?_;refine u_nil ?_;refine hK10 _ ?_;refine wc (fun hc39=>?_) (fun hc39=>?_) <;> try simp only [Q0,Q1,Q2,Q3,Q4,Q5,Q6,Q7,Q8,ge_iff_le,gt_iff_lt] at hc39
     ·
      refine wr (ua (u_nil (WP.ret ?_)));refine ret_ok rfl ?_ (by omega) (fun t ht=>(hk2 t (by omega)));clear hK6 hK10;refine congrArg D.bool ?_;have e1:=encVs_length xs;clear hbd ih hv;rw [Bool.eq_iff_iff];have hkd:kd < 1∨7 < kd∨kd=1∨kd=2∨kd=3∨kd=4∨kd=5∨kd=6∨kd=7:=by omega
      rcases hkd with h | h | rfl | rfl | rfl | rfl | rfl | rfl | rfl <;> simp_all [mayV,maysV_all,kindOk,namesV]
      all_goals grind
     ·
      refine wr (uf th27 th3 hb2 ?_);refine ul th3 hb2 ?_;refine ub (um ?_);apply gT
      ·rfl
      ·intro hg;exact pf th27 th3 hb2
      apply gT
      ·rfl
      ·intro hg;try simp only [hg,ct,Bt]
       exact pl th3 hb2
      apply gT
      ·rfl
      ·intro hg;try simp only [hg,ct,Bt]
       exact pb
      refine uA (um ?_);apply gT
      ·rfl
      ·intro hg;exact pf th27 th3 hb2
      apply gT
      ·rfl
      ·intro hg;try simp only [hg,ct,Bt]
       exact pl th3 hb2
      apply gT
      ·rfl
      ·intro hg;try simp only [hg,ct,Bt]
       exact pb
      refine uA ?_;refine ua ?_;refine u_nil ?_;refine wc (fun hc42=>?_) (fun hc42=>?_) <;> try simp only [Q0,Q1,Q2,Q3,Q4,Q5,Q6,Q7,Q8,ge_iff_le,gt_iff_lt] at hc42
      ·
       refine wr (ua (u_nil (WP.ret ?_)));refine ret_ok rfl ?_ (by omega) (fun t ht=>(hk2 t (by omega)));clear hK6 hK10;refine congrArg D.bool ?_;have e1:=encVs_length xs;clear hbd ih hv;rw [Bool.eq_iff_iff];have hkd:kd < 1∨7 < kd∨kd=1∨kd=2∨kd=3∨kd=4∨kd=5∨kd=6∨kd=7:=by omega
       rcases hkd with h | h | rfl | rfl | rfl | rfl | rfl | rfl | rfl <;> simp_all [mayV,maysV_all,kindOk,namesV]
       all_goals grind
      ·
       refine wr (uf th27 th3 hb2 ?_);refine ul th3 hb2 ?_;refine ub (um ?_);apply gT
       ·rfl
       ·intro hg;exact pf th27 th22 hb2
       apply gT
       ·rfl
       ·intro hg;try simp only [hg,ct,Bt]
        exact pl th22 hb2
       apply gT
       ·rfl
       ·intro hg;try simp only [hg,ct,Bt]
        exact pn th22
       apply gT
       ·rfl
       ·intro hg;try simp only [hg,ct,Bt]
        exact pb
       refine uA ?_;refine ua ?_;refine u_nil ?_;refine wc (fun hc45=>?_) (fun hc45=>?_) <;> try simp only [Q0,Q1,Q2,Q3,Q4,Q5,Q6,Q7,Q8,ge_iff_le,gt_iff_lt] at hc45
       ·
        refine wr (ua (u_nil (WP.ret ?_)));refine ret_ok rfl ?_ (by omega) (fun t ht=>(hk2 t (by omega)));clear hK6 hK10;refine congrArg D.bool ?_;have e1:=encVs_length xs;clear hbd ih hv;rw [Bool.eq_iff_iff];have hkd:kd < 1∨7 < kd∨kd=1∨kd=2∨kd=3∨kd=4∨kd=5∨kd=6∨kd=7:=by omega
        rcases hkd with h | h | rfl | rfl | rfl | rfl | rfl | rfl | rfl <;> simp_all [mayV,maysV_all,kindOk,namesV]
        all_goals grind
       ·
        refine wr (uf th27 th3 hb2 ?_);refine ul th3 hb2 ?_;refine ub (um ?_);apply gT
        ·rfl
        ·intro hg;exact pf th27 th22 hb2
        apply gT
        ·rfl
        ·intro hg;try simp only [hg,ct,Bt]
         exact pl th22 hb2
        apply gT
        ·rfl
        ·intro hg;try simp only [hg,ct,Bt]
         exact pn th22
        apply gT
        ·rfl
        ·intro hg;exact pf th27 th25 hb2
        apply gT
        ·rfl
        ·intro hg;try simp only [hg,ct,Bt]
         exact pl th25 hb2
        apply gT
        ·rfl
        ·intro hg;try simp only [hg,ct,Bt]
         exact pn th25
        apply gT
        ·rfl
        ·intro hg;try simp only [hg,ct,Bt]
         exact pb
        apply gT
        ·rfl
        ·intro hg;try simp only [hg,ct,Bt]
         exact pm
        apply u_guard
        ·exact GC.cf _ _
        ·intro hg;exact pf th27 th22 hb2
        apply u_guard
        ·exact GC.cf _ _
        ·intro hg;try simp only [hg,ct,Bt]
         exact pl th22 hb2
        apply u_guard
        ·exact GC.cf _ _
        ·intro hg;try simp only [hg,ct,Bt]
         refine o_pcall (s58 ns) rfl ⟨rfl,rfl,rfl⟩
        apply u_guard
        ·exact GC.cf _ _
        ·intro hg;try simp only [hg,ct,Bt]
         exact pN
        apply gT
        ·rfl
        ·intro hg;try simp only [hg,ct,Bt]
         exact pO
        refine uA ?_;refine ua ?_;refine u_nil ?_;refine wc (fun hc48=>?_) (fun hc48=>?_) <;> try simp only [Q0,Q1,Q2,Q3,Q4,Q5,Q6,Q7,Q8,ge_iff_le,gt_iff_lt] at hc48
        ·
         refine wr (ua (u_nil (WP.ret ?_)));refine ret_ok rfl ?_ (by omega) (fun t ht=>(hk2 t (by omega)));clear hK6 hK10;refine congrArg D.bool ?_;have e1:=encVs_length xs;clear hbd ih hv;rw [Bool.eq_iff_iff];have hkd:kd < 1∨7 < kd∨kd=1∨kd=2∨kd=3∨kd=4∨kd=5∨kd=6∨kd=7:=by omega
         rcases hkd with h | h | rfl | rfl | rfl | rfl | rfl | rfl | rfl <;> simp_all [mayV,maysV_all,kindOk,namesV]
         all_goals grind
        ·
         refine WP.skip (hK6 _ (wr (uf th27 th25 hb2 ?_)));refine ul th25 hb2 ?_;refine u_step (o_scall (s59 xs 60 [] [] (fun x=>!mayV x) (fun x hx=>s60 x (ih x (by obtain ⟨j,hj,rfl⟩:=List.mem_iff_getElem.1 hx;exact items_lt' hj hv)) _ _)) rfl ?_);refine uN (ua (u_nil (WP.ret ?_)));refine ret_ok rfl ?_ (by omega) (fun t ht=>(hk2 t (by omega)));clear hK6 hK10;refine congrArg D.bool ?_;have e1:=encVs_length xs;clear hbd ih hv;rw [Bool.eq_iff_iff];have hkd:kd < 1∨7 < kd∨kd=1∨kd=2∨kd=3∨kd=4∨kd=5∨kd=6∨kd=7:=by omega
         rcases hkd with h | h | rfl | rfl | rfl | rfl | rfl | rfl | rfl <;> simp_all [mayV,maysV_all,kindOk,namesV]
         all_goals grind
theorem s34 (v:Val):PSpec Try.prog 34 [.d (encV v)] (.d (.bool (mayV v))):=s34A _ v (Nat.lt_succ_self _)
def u64 (m:Int):Nat:=(m % 18446744073709551616).toNat
theorem u64_lt (m:Int):u64 m < 18446744073709551616:=by unfold u64;omega
theorem u64_wrap (m:Int):IntKind.u64.wrap m=(u64 m:Int):=by
 simp only [IntKind.wrap,IntKind.bits,IntKind.signed,u64];simp;omega
def zigN (x:Int):Nat:=if 0≤x then u64 (2 * u64 x) else u64 (2 * u64 (-(x+1))+1)
theorem or128 (m:Nat):bitsOf .or .u8 (IntKind.u8.wrap (m:Int)) 128=((UInt8.ofNat (m % 128+128)).toNat:Int):=by
 have h1:∀ b:BitVec 8,(b ||| 128#8).toNat=b.toNat % 128+128:=by decide
 have e:bitsOf .or .u8 (IntKind.u8.wrap (m:Int)) 128=IntKind.u8.wrap ((BitVec.ofInt 8 (IntKind.u8.wrap (m:Int)) ||| 128#8).toNat:Int):=rfl;rw [e,wrap_u8,wrap_u8,h1];simp;omega
theorem fn75:FnOk Try.prog 75 20 [4] (bodyOf Try.f75):=⟨Try.f75,Try.func75,by kernel_rfl,by decide,by kernel_rfl,by kernel_rfl⟩
theorem s75 (u:Nat) (hu:u < 18446744073709551616):RSpec Try.prog 75 [.d .nil,.d (.int .u64 u)] 5 1 (bytesD (grp u)):=by
 refine RSpec.of fn75 (by simp) fun o nk=>?_;refine WP.seq fun K1 hK1=>?_;refine WP.reg tabOk rfl ?_;refine u_step (o_assign rfl ?_);refine u_nil (hK1 _ (WP.seq fun K2 hK2=>?_));refine WP.block ?_;refine WP.loopL (ι:=Nat×Str×SV×(Nat→Option AO)×Nat) (fun ⟨m,acc,c,o2,nk2⟩=>⟨al [(1,.d (.int .u64 m)),(0,c)],o2,nk2⟩)
  (fun ⟨m,acc,c,o2,nk2⟩=>acc++grp m=grp u∧m≤u∧nk≤nk2∧(∃ q,dstOf o2 5 1 c=some (q,bytesD acc)∧∀ t,q=some t→nk≤t∧t < nk2)∧∀ t,t < nk→o2 t=o t)
  (fun ⟨m,_,_,_,_⟩=>m) (fun ⟨m,acc,c,o2,nk2⟩ hA=>?_) (u,[],.d .nil,o,nk) ?_ ?_
 ·obtain ⟨hac,hm,hnk,⟨q,hd,hq⟩,hfr⟩:=hA;have hlen:acc.length+(grp m).length=(grp u).length:=by rw [← hac];simp
  have hgl:(grp u).length≤10:=grp_len 10 u (by omega) (by omega);have hgm:1≤(grp m).length:=by
   by_cases h:m < 128
   ·rw [grp_lt h];simp
   ·rw [grp_ge h];simp
  refine WP.seq fun K4 hK4=>?_;refine WP.seq fun K5 hK5=>?_;refine WP.reg tabOk rfl ?_;refine u_step (o_move rfl ?_);refine u_step (o_bin_int rfl rfl (by decide) rfl ?_);refine u_nil (hK5 _ ?_);refine WP.cond rfl (fun hc=>?_) (fun hc=>?_)
  ·simp only [decide_eq_true_eq] at hc;have hge:¬ m < 128:=by omega
   refine WP.skip (hK4 _ (WP.seq fun K6 hK6=>?_));refine WP.block (WP.reg tabOk rfl ?_);refine u_step (o_moveV (v:=c) rfl ?_);refine u_step (o_move rfl ?_);refine u_step (o_cv_int rfl th94 th5 rfl ?_);refine u_step (o_bin_int rfl rfl (by decide) rfl ?_);refine u_step (o_bs rfl th49 rfl th5 rfl rfl (by decide) rfl (by decide) (by decide) ?_);refine u_step (g_apD (q:=q) (xs:=bytesD acc) (show dstOf _ _ _ (ev _ _)=_ from hd) rfl th49 rfl th5 rfl rfl (by decide) rfl (by rw [bytesD_length];simp;omega) (by rw [bytesD_length];simp;omega) fun o3 hb hk=>?_);refine uS (u_nil (hK6 _ (WP.reg tabOk rfl ?_)));refine u_step (o_move rfl ?_);refine u_step (o_bin_sh rfl rfl rfl ?_);refine u_step (o_assign rfl ?_);refine u_nil ?_;have hv2:(m:Int).fdiv (2 ^ min (7:Int).toNat IntKind.u64.bits)=((m / 128:Nat):Int):=by
    show (m:Int).fdiv 128=_;rw [Int.fdiv_eq_ediv_of_nonneg _ (by omega)];omega
   refine ⟨(m / 128,acc++[UInt8.ofNat (m % 128+128)],.row nk2,o3,nk2+1),⟨?_,by omega,by omega,⟨some nk2,?_,?_⟩,?_⟩,by simp only;omega,?_⟩
   ·rw [← hac,grp_ge hge];simp
   ·rw [← bytesD_snoc,← or128];exact dst_row hb
   ·intro t ht;injection ht with ht;omega
   ·intro t ht;rw [hk t (by omega) (fun e=>by have:=hq t e.symm;omega),hfr t ht]
   ·refine Le.al ?_;simp only [List.forall_mem_cons];exact ⟨(by rw [← hv2];rfl),rfl,by simp⟩
  ·simp only [decide_eq_false_iff_not] at hc;have hlt:m < 128:=by omega
   refine WP.exit ?_;refine hK2 _ (WP.seq fun K6 hK6=>?_);refine WP.reg tabOk rfl ?_;refine u_step (o_moveV (v:=c) rfl ?_);refine u_step (o_move rfl ?_);refine u_step (o_cv_int rfl th94 th5 rfl ?_);refine u_step (o_bs rfl th49 rfl th5 rfl rfl (by decide) rfl (by decide) (by decide) ?_);refine u_step (g_apD (q:=q) (xs:=bytesD acc) (show dstOf _ _ _ (ev _ _)=_ from hd) rfl th49 rfl th5 rfl rfl (by decide) rfl (by rw [bytesD_length];simp;omega) (by rw [bytesD_length];simp;omega) fun o3 hb hk=>?_);refine uS (u_nil (hK6 _ (WP.ret ?_)));have hv:IntKind.u8.wrap (m:Int)=((UInt8.ofNat m).toNat:Int):=by rw [wrap_u8];simp
   refine rrow_ok rfl (by omega) (by omega) ?_ ?_
   ·rw [← hac,grp_lt hlt,← bytesD_snoc,← hv];exact hb
   ·intro t ht;rw [hk t (by omega) (fun e=>by have:=hq t e.symm;omega),hfr t ht]
 ·exact ⟨by simp,by omega,by omega,⟨none,rfl,by simp⟩,fun _ _=>rfl⟩
 ·refine Le.al ?_;simp only [List.forall_mem_cons];exact ⟨rfl,rfl,by simp⟩
theorem xor_zig {x:Int} (h1:-9223372036854775808≤x) (h2:x≤9223372036854775807) :
    bitsOf .xor .u64 (IntKind.u64.wrap (IntKind.u64.wrap x * 2 ^ min (1:Int).toNat IntKind.u64.bits)) (IntKind.u64.wrap (x.fdiv (2 ^ min (63:Int).toNat IntKind.i64.bits)))=(zigN x:Int):=by
  have e0:IntKind.u64.wrap x * 2 ^ min (1:Int).toNat IntKind.u64.bits=2 * IntKind.u64.wrap x:=by
    show IntKind.u64.wrap x * 2=_;omega
  have e1:x.fdiv (2 ^ min (63:Int).toNat IntKind.i64.bits)=if 0≤x then 0 else -1:=by
    show x.fdiv 9223372036854775808=_;rw [Int.fdiv_eq_ediv_of_nonneg _ (by omega)];split <;> omega
  have e2:∀ a b:Int,bitsOf .xor .u64 a b=IntKind.u64.wrap ((BitVec.ofInt 64 a ^^^ BitVec.ofInt 64 b).toNat:Int):=fun _ _=>rfl;rw [e0,e1,e2];by_cases h:0≤x
  · rw [if_pos h];have hz:BitVec.ofInt 64 (IntKind.u64.wrap 0)=0#64:=rfl;rw [hz,BitVec.xor_zero,BitVec.toNat_ofInt,zigN,if_pos h];simp only [u64_wrap,u64];omega
  · rw [if_neg h];have hz:BitVec.ofInt 64 (IntKind.u64.wrap (-1))=BitVec.allOnes 64:=by decide
    rw [hz,BitVec.xor_allOnes,BitVec.toNat_not,BitVec.toNat_ofInt,zigN,if_neg h];simp only [u64_wrap,u64];omega
theorem s75x {x:Int} (h1:-9223372036854775808≤x) (h2:x≤9223372036854775807) :
    RSpec Try.prog 75 [.d .nil,.d (.int .u64 (bitsOf .xor .u64 (IntKind.u64.wrap (IntKind.u64.wrap x * 2 ^ min (1:Int).toNat IntKind.u64.bits)) (IntKind.u64.wrap (x.fdiv (2 ^ min (63:Int).toNat IntKind.i64.bits)))))] 5 1 (bytesD (grp (zigN x))):=by
  rw [xor_zig h1 h2];exact s75 (zigN x) (by unfold zigN;split <;> exact u64_lt _)
theorem s75w (m:Int):RSpec Try.prog 75 [.d .nil,.d (.int .u64 (IntKind.u64.wrap m))] 5 1 (bytesD (grp (u64 m))):=by
 rw [u64_wrap];exact s75 _ (u64_lt m)
theorem fn104:FnOk Try.prog 104 11 [2] (bodyOf Try.f104):=⟨Try.f104,Try.func104,by kernel_rfl,by decide,by kernel_rfl,by kernel_rfl⟩
theorem s104 (x:Int) (h1:-9223372036854775808≤x) (h2:x≤9223372036854775807):RSpec Try.prog 104 [.d (.int .i64 x)] 5 1 (bytesD (grp (zigN x))):=by
 refine RSpec.of fn104 (by simp) fun o nk=>?_;refine wr (ua (u_nil (wr (um (uc th3 th94 ?_)))));refine u_step (o_bin_sh rfl rfl rfl ?_);refine um ?_;refine u_step (o_bin_sh rfl rfl rfl ?_);refine uc th3 th94 ?_;refine ub ?_;refine u_step (o_rcall (s75x h1 h2) rfl fun q3 o3 nk3 hqa3 hqb3 hb3 hk3=>?_);refine uS (u_nil (WP.ret ?_));refine rrow_ok rfl (by omega) (by omega) ?_ (fun t ht=>(hk3 t (by omega)));exact hb3
theorem fn74:FnOk Try.prog 74 13 [2,3] (bodyOf Try.f74):=⟨Try.f74,Try.func74,by kernel_rfl,by decide,by kernel_rfl,by kernel_rfl⟩
theorem s74 (n:Int) (h1:0≤n) (h2:n≤4611686018427387904):RDSpec Try.prog 74 [.d (.int .i64 n)] 5 1 (bytesD (grp (u64 n))) (.int .i64 0):=by
 refine RDSpec.of fn74 (by simp) fun o nk=>?_;refine wr (ua (ua (u_nil (WP.seq fun K2 hK2=>?_))));refine wr (um (ub (um ?_)));apply gF
 ·rfl
 ·intro hg;exact pm
 apply gF
 ·rfl
 ·intro hg;try simp only [hg,ct,Bt]
  exact pb
 refine uO ?_;refine u_nil ?_;refine wc (fun hc4=>?_) (fun hc4=>?_) <;> try simp only [Q0,Q1,Q2,Q3,Q4,Q5,Q6,Q7,Q8,ge_iff_le,gt_iff_lt] at hc4
 ·
  exfalso;simp at hc4;omega
 ·
  refine WP.skip (hK2 _ (wr (um (uc th3 th94 ?_))));refine u_step (o_rcall (s75w n) rfl fun q6 o6 nk6 hqa6 hqb6 hb6 hk6=>?_);refine uS (ua (u_nil (WP.ret ?_)));refine rrowd_ok rfl ?_ (by omega) (by omega) ?_ (fun t ht=>(hk6 t (by omega)))
  ·rfl
  exact hb6
theorem fn109:FnOk Try.prog 109 12 [2] (bodyOf Try.f109):=⟨Try.f109,Try.func109,by kernel_rfl,by decide,by kernel_rfl,by kernel_rfl⟩
theorem s109 (n:Int) (h1:0≤n) (h2:n≤4611686018427387904):PSpec Try.prog 109 [.d (.int .i64 n)] (.d (.int .i64 ((grp (u64 n)).length:Int))):=by
 refine PSpec.of fn109 (by simp) fun o nk=>?_;refine wr (ua (u_nil (wr (um ?_))));refine u_step (o_rdcall (s74 n h1 h2) rfl fun q3 o3 nk3 hqa3 hqb3 hb3 hk3=>?_);refine u_step (o_moveV (v:=.tup _) rfl ?_);refine ue (ue (uS (ua (u_nil (wr (uR ?_))))));refine u_step (o_len_row rfl th49 rfl hb3 ?_);refine ua (u_nil (WP.ret ?_));refine ret_ok rfl ?_ (by omega) (fun t ht=>(hk3 t (by omega)));rw [bytesD_length]
theorem fn108:FnOk Try.prog 108 9 [2] (bodyOf Try.f108):=⟨Try.f108,Try.func108,by kernel_rfl,by decide,by kernel_rfl,by kernel_rfl⟩
theorem s108 (s:Str) (hs:s.length≤70368744177664):PSpec Try.prog 108 [.d (.str s)] (.d (.int .i64 (((grp (u64 s.length)).length+s.length:Nat):Int))):=by
 have hgl:(grp (u64 s.length)).length≤10:=grp_len 10 _ (by have:=u64_lt s.length;omega) (by omega);refine PSpec.of fn108 (by simp) fun o nk=>?_;refine wr (ua (u_nil (wr (um ?_))));refine u_step (o_len_str rfl th9 rfl ?_);refine u_step (o_pcall (s109 s.length (by omega) (by omega)) rfl ?_);refine um ?_;refine u_step (o_len_str rfl th9 rfl ?_);refine ub (ua (u_nil (WP.ret ?_)));refine ret_ok rfl ?_ (by omega) (fun _ _=>rfl);rw [wrap_i64 (by omega) (by omega)];simp
theorem max_i (a b:Nat):(if (a:Int) < (b:Int) then (b:Int) else (a:Int))=((max a b:Nat):Int):=by split <;> omega
theorem fn86:FnOk Try.prog 86 20 [2] (bodyOf Try.f86):=⟨Try.f86,Try.func86,by kernel_rfl,by decide,by kernel_rfl,by kernel_rfl⟩
theorem s86A (m:Nat):∀ v:Val,SizeOf.sizeOf v < m→szV v≤1099511627776→PSpec Try.prog 86 [.d (encV v)] (.d (.int .i64 (depthV v:Int))):=by
 induction m with
 | zero=>intros;omega
 | succ m ih=>
  rintro ⟨kd,it,tx,xs,ns⟩ hv hsz;have hsz2:1+tx.length+szVs xs+szN ns≤1099511627776:=hsz;have hxl:=szVs_len xs;have hnl:=szN_len ns;have hdp:=depths_sz xs;refine PSpec.of fn86 (by simp) fun o nk=>?_;refine wr ?_;refine u_step (g_box rfl fun o2 hb2 hk2=>?_);refine ua (u_nil (wr (ua (u_nil (WP.seq fun K4 hK4=>?_)))));refine wr (uf th27 th25 hb2 ?_);refine ul th25 hb2 ?_;refine un th25 ?_;refine um (u_nil (WP.block ?_));refine WP.loopL (ι:=Nat×(Nat→Option AO)×Nat) (fun ⟨i,o2,nk2⟩=>⟨al [(3,.d (.int .i64 (depthsV (xs.take i):Nat))),(7,.d (.sl 5 (encVs xs))),(8,.d (.int .i64 (encVs xs).length)),(9,.d (.int .i64 i))],o2,nk2⟩) (fun ⟨i,o2,nk2⟩=>i≤xs.length∧nk≤nk2∧(∀ t,t < nk→o2 t=o t)) (fun ⟨i,o2,nk2⟩=>xs.length - i) (fun ⟨i,o2,nk2⟩ hA=>?_) ⟨0,o2,(nk+1)⟩ ?_ ?_
  ·
   obtain ⟨hle,hnk,hfr⟩:=hA;refine wr ?_;refine ub ?_;refine u_nil ?_;refine WP.seq fun K7 hK7=>?_;refine wc (fun hc8=>?_) (fun hc8=>?_) <;> try simp only [Q0,Q1,Q2,Q3,Q4,Q5,Q6,Q7,Q8,ge_iff_le,gt_iff_lt] at hc8
   ·
    refine WP.skip (hK7 _ (WP.seq fun K9 hK9=>?_));refine WP.block (wr ?_)
    first | refine u_step (o_ia_map rfl rfl th25 rfl th27 rfl (by omega) ?_) | refine u_step (o_ia_vs rfl rfl th25 rfl th27 rfl (by omega) ?_)
    refine uL th27 ?_;refine u_step (g_alloc th27 rfl fun o11 hb11 hk11=>?_);refine u_step0 (g_sta rfl (congrArg SV.d (encV_eq _)) th27 rfl hb11 (by simp [valCells]) fun o12 hb12 hk12=>?_);refine u_nil (WP.reg tabOk rfl ?_);refine um (ug th27 hb12 ?_);refine u_step (o_pcall (pv (v:=xs[i]) (ih _ (by exact items_lt' (by omega) hv) (by have:=szVs_get (xs:=xs) (j:=i) (by omega);omega))) rfl ?_);refine u_step (o_mm (by decide) rfl ?_);refine ua (u_nil (hK9 _ (WP.reg tabOk rfl ?_)));refine ub (um (u_nil ?_));refine ⟨⟨i+1,o12,(nk2+1)⟩,⟨by omega,by omega,(fun t ht=>(hk12 t (by omega)).trans ((hk11 t (by omega)).trans ((hfr t (by omega)))))⟩,by simp only;omega,?_⟩;refine Le.al ?_;simp only [List.forall_mem_cons];exact ⟨(by rw [depthsV_snoc (by omega),← max_i];rfl),rfl,rfl,cnt (by omega),by simp⟩
   ·
    refine WP.exit ?_;refine hK4 _ (wr (um (ub (ua (u_nil (WP.ret ?_))))));refine ret_ok rfl ?_ (by omega) (fun t ht=>(hfr t (by omega)));refine congrArg (D.int .i64) ?_;have h0:xs.take i=xs:=List.take_of_length_le (by omega);rw [h0,wrap_succ (by omega)];rfl
  ·
   refine ⟨by simp,by omega,(fun t ht=>(hk2 t (by omega)))⟩
  ·
   refine Le.al ?_;simp only [List.forall_mem_cons];exact ⟨rfl,rfl,rfl,rfl,by simp⟩
theorem s86 (v:Val) (hsz:szV v≤1099511627776):PSpec Try.prog 86 [.d (encV v)] (.d (.int .i64 (depthV v:Int))):=s86A _ v (Nat.lt_succ_self _) hsz
mutual
def rngV:Val→Prop
 | .mk _ i _ xs _=>(-9223372036854775808≤i∧i≤9223372036854775807)∧rngVs xs
def rngVs:List Val→Prop
 | []=>True
 | x :: xs=>rngV x∧rngVs xs
end
theorem rngVs_get:∀ {xs:List Val} {j:Nat} (_:rngVs xs) (h:j < xs.length),rngV (xs[j]'h)
 | x :: xs,0,hr,_=>hr.1
 | x :: xs,j+1,hr,h=>rngVs_get (xs:=xs) (j:=j) hr.2 (by simpa using h)
def cntN (n:Nat):Nat:=(grp (u64 n)).length
def textN (s:Str):Nat:=(grp (u64 s.length)).length+s.length
def namesN:List Str→Nat
 | []=>0
 | s :: r=>textN s+namesN r
mutual
def sizeV:Val→Nat
 | .mk k i t xs ns=>if k=1 then 1 else if k=2 then 2 else if k=3 then 1+(grp (zigN i)).length else if k=4∨k=5 then 1+textN t else 1+cntN xs.length+sizesV xs+namesN ns
def sizesV:List Val→Nat
 | []=>0
 | x :: xs=>sizeV x+sizesV xs
end
theorem cntN_le (n:Nat):cntN n≤10:=grp_len 10 _ (by have:=u64_lt (n:Int);omega) (by omega)
theorem zig_lt (x:Int):zigN x < 18446744073709551616:=by unfold zigN;split <;> exact u64_lt _
theorem zig_le (x:Int):(grp (zigN x)).length≤10:=grp_len 10 _ (Nat.lt_of_lt_of_le (zig_lt x) (by decide)) (by omega)
theorem textN_le (s:Str):textN s≤10+s.length:=by have:=cntN_le s.length;unfold textN cntN at *;omega
theorem namesN_le:∀ ns,namesN ns≤11 * szN ns
 | []=>by simp [namesN]
 | s :: r=>by
  have:=namesN_le r;have:=textN_le s;simp only [namesN,szN];omega
mutual
theorem sizeV_le:∀ v,sizeV v≤12 * szV v
 | .mk k i t xs ns=>by
  have h1:=sizesV_le xs;have h2:=namesN_le ns;have h3:=cntN_le xs.length;have h4:=zig_le i;have h5:=textN_le t;simp only [sizeV,szV];split
  ·omega
  ·split
   ·omega
   ·split
    ·omega
    ·split <;> omega
theorem sizesV_le:∀ xs,sizesV xs≤12 * szVs xs
 | []=>by simp [sizesV]
 | x :: xs=>by
  have h1:=sizeV_le x;have h2:=sizesV_le xs;simp only [sizesV,szVs];omega
end
theorem sizesV_snoc:∀ {xs:List Val} {i:Nat} (h:i < xs.length),sizesV (xs.take (i+1))=sizesV (xs.take i)+sizeV (xs[i]'h)
 | x :: xs,0,_=>by simp [sizesV]
 | x :: xs,i+1,h=>by
  have:=sizesV_snoc (xs:=xs) (i:=i) (by simpa using h);simp only [List.take_succ_cons,sizesV,this,List.getElem_cons_succ];omega
theorem namesN_snoc:∀ {xs:List Str} {i:Nat} (h:i < xs.length),namesN (xs.take (i+1))=namesN (xs.take i)+textN (xs[i]'h)
 | x :: xs,0,_=>by simp [namesN]
 | x :: xs,i+1,h=>by
  have:=namesN_snoc (xs:=xs) (i:=i) (by simpa using h);simp only [List.take_succ_cons,namesN,this,List.getElem_cons_succ];omega
theorem sizesV_take (xs:List Val) (i:Nat):sizesV (xs.take i)≤sizesV xs:=by
 have h:∀ (ys zs:List Val),sizesV ys≤sizesV (ys++zs):=fun ys zs=>by
  induction ys with
  | nil=>simp [sizesV]
  | cons y ys ih=>simp only [List.cons_append,sizesV];omega
 have:=h (xs.take i) (xs.drop i)
 rwa [List.take_append_drop] at this
theorem namesN_take (xs:List Str) (i:Nat):namesN (xs.take i)≤namesN xs:=by
 have h:∀ (ys zs:List Str),namesN ys≤namesN (ys++zs):=fun ys zs=>by
  induction ys with
  | nil=>simp [namesN]
  | cons y ys ih=>simp only [List.cons_append,namesN];omega
 have:=h (xs.take i) (xs.drop i)
 rwa [List.take_append_drop] at this
theorem may_items {k i t xs ns} (h:mayV (.mk k i t xs ns)=true) {j:Nat} (hj:j < xs.length):mayV (xs[j]'hj)=true:=by
 rw [mayV,maysV_all] at h;simp only [Bool.and_eq_true] at h;exact List.all_eq_true.1 h.1.1 _ (List.getElem_mem hj)
theorem add_w {a b c:Nat} (h:a+b=c) (hb:c≤9223372036854775807):SV.d (.int .i64 (IntKind.i64.wrap ((a:Int)+(b:Int))))=SV.d (.int .i64 (c:Int)):=by
 rw [wrap_i64 (by omega) (by omega),← h];simp
theorem add_w1 {b c:Nat} (h:1+b=c) (hb:c≤9223372036854775807):SV.d (.int .i64 (IntKind.i64.wrap (1+(b:Int))))=SV.d (.int .i64 (c:Int)):=by
 rw [wrap_i64 (by omega) (by omega),← h];simp
theorem fn87:FnOk Try.prog 87 58 [2] (bodyOf Try.f87):=⟨Try.f87,Try.func87,by kernel_rfl,by decide,by kernel_rfl,by kernel_rfl⟩
theorem s87A (m:Nat):∀ v:Val,SizeOf.sizeOf v < m→mayV v=true→rngV v→szV v≤1099511627776→PSpec Try.prog 87 [.d (encV v)] (.d (.int .i64 (sizeV v:Int))):=by
 induction m with
 | zero=>intros;omega
 | succ m ih=>
  rintro ⟨kd,it,tx,xs,ns⟩ hv hmy hrg hsz;have hsz2:1+tx.length+szVs xs+szN ns≤1099511627776:=hsz;have hxl:=szVs_len xs;have hnl:=szN_len ns;have hs1:=sizesV_le xs;have hs2:=namesN_le ns;have hc1:=cntN_le xs.length;have hz1:=zig_le it;have ht1:=textN_le tx;have hln:=encVs_length xs;refine PSpec.of fn87 (by simp) fun o nk=>?_;refine wr ?_;refine u_step (g_box rfl fun o2 hb2 hk2=>?_);refine ua ?_;refine u_nil ?_;refine WP.seq fun K3 hK3=>?_;refine wr ?_;refine uf th27 th3 hb2 ?_;refine ul th3 hb2 ?_;refine u_nil ?_;refine WP.block ?_;refine wr ?_;refine ub ?_;refine ua ?_;refine u_nil ?_;refine wc (fun hc6=>?_) (fun hc6=>?_) <;> try simp only [Q0,Q1,Q2,Q3,Q4,Q5,Q6,Q7,Q8,ge_iff_le,gt_iff_lt] at hc6
  ·
   refine wr (ua (u_nil (WP.ret ?_)));refine ret_ok rfl ?_ (by omega) (fun t ht=>(hk2 t (by omega)));clear hK3;refine congrArg (D.int .i64) ?_;simp only [beq_iff_eq,beq_eq_false_iff_ne,ne_eq,Bool.or_eq_true,Bool.or_eq_false_iff] at hc6;have e0:textN tx=(grp (u64 tx.length)).length+tx.length:=rfl
   try rw [wrap_i64 (by first | omega | (rw [bytesD_length];omega)) (by first | omega | (rw [bytesD_length];omega))]
   try rw [bytesD_length]
   have h0:∀ i,¬ i < xs.length→xs.take i=xs:=fun i h=>List.take_of_length_le (by omega);have h0n:∀ i,¬ i < ns.length→ns.take i=ns:=fun i h=>List.take_of_length_le (by omega);simp only [sizeV]
   grind
  ·
   refine wr ?_;refine ub ?_;refine ua ?_;refine u_nil ?_;refine wc (fun hc9=>?_) (fun hc9=>?_) <;> try simp only [Q0,Q1,Q2,Q3,Q4,Q5,Q6,Q7,Q8,ge_iff_le,gt_iff_lt] at hc9
   ·
    refine wr (ua (u_nil (WP.ret ?_)));refine ret_ok rfl ?_ (by omega) (fun t ht=>(hk2 t (by omega)));clear hK3;refine congrArg (D.int .i64) ?_;simp only [beq_iff_eq,beq_eq_false_iff_ne,ne_eq,Bool.or_eq_true,Bool.or_eq_false_iff] at hc6 hc9;have e0:textN tx=(grp (u64 tx.length)).length+tx.length:=rfl
    try rw [wrap_i64 (by first | omega | (rw [bytesD_length];omega)) (by first | omega | (rw [bytesD_length];omega))]
    try rw [bytesD_length]
    have h0:∀ i,¬ i < xs.length→xs.take i=xs:=fun i h=>List.take_of_length_le (by omega);have h0n:∀ i,¬ i < ns.length→ns.take i=ns:=fun i h=>List.take_of_length_le (by omega);simp only [sizeV]
    grind
   ·
    refine wr ?_;refine ub ?_;refine ua ?_;refine u_nil ?_;refine wc (fun hc12=>?_) (fun hc12=>?_) <;> try simp only [Q0,Q1,Q2,Q3,Q4,Q5,Q6,Q7,Q8,ge_iff_le,gt_iff_lt] at hc12
    ·
     refine wr (uf th27 th3 hb2 ?_);refine ul th3 hb2 ?_;refine u_step (o_rcall (s104 it hrg.1.1 hrg.1.2) rfl fun q14 o14 nk14 hqa14 hqb14 hb14 hk14=>?_);have hb2_14:=(hk14 _ (by omega)).trans hb2;refine u_step (o_len_row rfl th49 rfl hb14 ?_);refine ub (ua (u_nil (WP.ret ?_)));refine ret_ok rfl ?_ (by omega) (fun t ht=>(hk14 t (by omega)).trans ((hk2 t (by omega))));clear hK3;refine congrArg (D.int .i64) ?_;simp only [beq_iff_eq,beq_eq_false_iff_ne,ne_eq,Bool.or_eq_true,Bool.or_eq_false_iff] at hc6 hc9 hc12;have e0:textN tx=(grp (u64 tx.length)).length+tx.length:=rfl
     try rw [wrap_i64 (by first | omega | (rw [bytesD_length];omega)) (by first | omega | (rw [bytesD_length];omega))]
     try rw [bytesD_length]
     have h0:∀ i,¬ i < xs.length→xs.take i=xs:=fun i h=>List.take_of_length_le (by omega);have h0n:∀ i,¬ i < ns.length→ns.take i=ns:=fun i h=>List.take_of_length_le (by omega);simp only [sizeV]
     grind
    ·
     refine WP.seqJ ⟨al [(1,.loc nk 0),(9,.d (.int .i64 kd)),(21,.d (.bool (kd == 4 || kd == 5)))],o2,(nk+1)⟩ ?_ ?_
     ·
      refine wr ?_;refine ub ?_;refine ua ?_;refine u_nil ?_;refine wc (fun hc16=>?_) (fun hc16=>?_) <;> try simp only [Q0,Q1,Q2,Q3,Q4,Q5,Q6,Q7,Q8,ge_iff_le,gt_iff_lt] at hc16
      ·
       refine WP.skip ?_;refine Le.al ?_;simp only [List.forall_mem_cons];refine ⟨rfl,rfl,?_,by simp⟩
       first | (show SV.d (.bool (kd == (4:Int)))=_;simp only [hc16,Bool.true_or]) | (show SV.d (.bool (kd == (5:Int)))=_;simp only [hc16,Bool.false_or])
      ·
       refine WP.reg tabOk rfl ?_;refine ub (ua (u_nil ?_));refine Le.al ?_;simp only [List.forall_mem_cons];refine ⟨rfl,rfl,?_,by simp⟩
       first | (show SV.d (.bool (kd == (4:Int)))=_;simp only [hc16,Bool.true_or]) | (show SV.d (.bool (kd == (5:Int)))=_;simp only [hc16,Bool.false_or])
     ·
      refine wc (fun hc17=>?_) (fun hc17=>?_) <;> try simp only [Q0,Q1,Q2,Q3,Q4,Q5,Q6,Q7,Q8,ge_iff_le,gt_iff_lt] at hc17
      ·
       refine wr (uf th27 th9 hb2 ?_);refine ul th9 hb2 ?_;refine u_step (o_pcall (s108 tx (by omega)) rfl ?_);refine ub (ua (u_nil (WP.ret ?_)));refine ret_ok rfl ?_ (by omega) (fun t ht=>(hk2 t (by omega)));clear hK3;refine congrArg (D.int .i64) ?_;simp only [beq_iff_eq,beq_eq_false_iff_ne,ne_eq,Bool.or_eq_true,Bool.or_eq_false_iff] at hc6 hc9 hc12 hc17;have e0:textN tx=(grp (u64 tx.length)).length+tx.length:=rfl
       try rw [wrap_i64 (by first | omega | (rw [bytesD_length];omega)) (by first | omega | (rw [bytesD_length];omega))]
       try rw [bytesD_length]
       have h0:∀ i,¬ i < xs.length→xs.take i=xs:=fun i h=>List.take_of_length_le (by omega);have h0n:∀ i,¬ i < ns.length→ns.take i=ns:=fun i h=>List.take_of_length_le (by omega);simp only [sizeV]
       grind
      ·
       refine WP.skip (hK3 _ (wr (uf th27 th25 hb2 ?_)));refine ul th25 hb2 ?_;refine un th25 ?_;refine u_step (o_pcall (s109 (encVs xs).length (by omega) (by omega)) rfl ?_);refine ub (ua (u_nil (WP.seq fun K20 hK20=>?_)));refine wr (uf th27 th25 hb2 ?_);refine ul th25 hb2 ?_;refine un th25 ?_;refine um (u_nil (WP.block ?_));refine WP.loopL (ι:=Nat×(Nat→Option AO)×Nat) (fun ⟨i,o2,nk2⟩=>⟨al [(1,.loc nk 0),(3,.d (.int .i64 (1+cntN xs.length+sizesV (xs.take i):Nat))),(34,.d (.sl 5 (encVs xs))),(35,.d (.int .i64 (encVs xs).length)),(36,.d (.int .i64 i))],o2,nk2⟩) (fun ⟨i,o2,nk2⟩=>i≤xs.length∧nk < nk2∧o2 nk=some (.box (([.int .i64 kd,.int .i64 it,.str tx,.sl 5 (encVs xs),.sl 1 (ns.map .str)]:List D).map .d))∧(∀ t,t < nk→o2 t=o t)) (fun ⟨i,o2,nk2⟩=>xs.length - i) (fun ⟨i,o2,nk2⟩ hA=>?_) ⟨0,o2,(nk+1)⟩ ?_ ?_
       ·
        obtain ⟨hle,hnk,hob,hfr⟩:=hA;refine wr ?_;refine ub ?_;refine u_nil ?_;refine WP.seq fun K23 hK23=>?_;refine wc (fun hc24=>?_) (fun hc24=>?_) <;> try simp only [Q0,Q1,Q2,Q3,Q4,Q5,Q6,Q7,Q8,ge_iff_le,gt_iff_lt] at hc24
        ·
         refine WP.skip (hK23 _ (WP.seq fun K25 hK25=>?_));refine WP.block (wr ?_)
         first | refine u_step (o_ia_map rfl rfl th25 rfl th27 rfl (by omega) ?_) | refine u_step (o_ia_vs rfl rfl th25 rfl th27 rfl (by omega) ?_)
         refine uL th27 ?_;refine u_step (g_alloc th27 rfl fun o27 hb27 hk27=>?_);have hob_27:=(hk27 _ (by omega)).trans hob;refine u_step0 (g_sta rfl (congrArg SV.d (encV_eq _)) th27 rfl hb27 (by simp [valCells]) fun o28 hb28 hk28=>?_);have hob_28:=(hk28 _ (by omega)).trans hob_27;refine u_nil (WP.reg tabOk rfl ?_);refine um (ug th27 hb28 ?_);refine u_step (o_pcall (pv (v:=xs[i]) (ih _ (by exact items_lt' (by omega) hv) (may_items hmy (by omega)) (rngVs_get hrg.2 (by omega)) (by have:=szVs_get (xs:=xs) (j:=i) (by omega);omega))) rfl ?_);refine ub (ua (u_nil (hK25 _ (WP.reg tabOk rfl ?_))));refine ub (um (u_nil ?_));have hsn:=sizesV_snoc (xs:=xs) (i:=i) (by omega);have hst:=sizesV_take xs (i+1);refine ⟨⟨i+1,o28,(nk2+1)⟩,⟨by omega,by omega,hob_28,(fun t ht=>(hk28 t (by omega)).trans ((hk27 t (by omega)).trans ((hfr t (by omega)))))⟩,by simp only;omega,?_⟩;refine Le.al ?_;simp only [List.forall_mem_cons];exact ⟨rfl,add_w (by omega) (by omega),rfl,rfl,cnt (by omega),by simp⟩
        ·
         refine WP.exit ?_;refine hK20 _ (WP.seq fun K29 hK29=>?_);refine wr (uf th27 th22 hob ?_);refine ul th22 hob ?_;refine un th22 ?_;refine um (u_nil (WP.block ?_));refine WP.loopL (ι:=Nat) (fun j=>⟨al [(3,.d (.int .i64 (1+cntN xs.length+sizesV xs+namesN (ns.take j):Nat))),(46,.d (.sl 1 (ns.map .str))),(47,.d (.int .i64 (ns.map D.str).length)),(48,.d (.int .i64 j))],o2,nk2⟩) (fun j=>j≤ns.length) (fun j=>ns.length - j) (fun j hA=>?_) 0 ?_ ?_
         ·
          refine wr ?_;refine ub ?_;refine u_nil ?_;refine WP.seq fun K32 hK32=>?_;refine wc (fun hc33=>?_) (fun hc33=>?_) <;> try simp only [Q0,Q1,Q2,Q3,Q4,Q5,Q6,Q7,Q8,ge_iff_le,gt_iff_lt] at hc33
          ·
           refine WP.skip (hK32 _ (WP.seq fun K34 hK34=>?_));refine WP.block (wr ?_)
           refine u_step (o_ia_map rfl rfl th22 rfl th9 rfl (by omega) ?_)
           refine uL th9 ?_;refine ua (u_nil (WP.reg tabOk rfl ?_));refine um (um ?_);refine u_step (o_pcall (s108 ns[j] (by have:=szN_get (xs:=ns) (j:=j) (by omega);omega)) rfl ?_);refine ub (ua (u_nil (hK34 _ (WP.reg tabOk rfl ?_))));refine ub (um (u_nil ?_));have hsn:=namesN_snoc (xs:=ns) (i:=j) (by omega);have hst:=namesN_take ns (j+1);refine ⟨j+1,by omega,by omega,?_⟩;refine Le.al ?_;simp only [List.forall_mem_cons];exact ⟨add_w (by simp only [textN] at *;omega) (by omega),rfl,rfl,cnt (by omega),by simp⟩
          ·
           refine WP.exit ?_;refine hK29 _ (wr (um (ua (u_nil (WP.ret ?_)))));refine ret_ok rfl ?_ (by omega) (fun t ht=>(hfr t (by omega)));clear hK3 hK20 hK23 hK29 hK32;refine congrArg (D.int .i64) ?_;simp only [beq_iff_eq,beq_eq_false_iff_ne,ne_eq,Bool.or_eq_true,Bool.or_eq_false_iff] at hc6 hc9 hc12 hc17 hc24 hc33;have e0:textN tx=(grp (u64 tx.length)).length+tx.length:=rfl
           try rw [wrap_i64 (by first | omega | (rw [bytesD_length];omega)) (by first | omega | (rw [bytesD_length];omega))]
           try rw [bytesD_length]
           have h0:∀ i,¬ i < xs.length→xs.take i=xs:=fun i h=>List.take_of_length_le (by omega);have h0n:∀ i,¬ i < ns.length→ns.take i=ns:=fun i h=>List.take_of_length_le (by omega);simp only [sizeV]
           grind
         ·
          omega
         ·
          refine Le.al ?_;simp only [List.forall_mem_cons];have h0:xs.take i=xs:=List.take_of_length_le (by omega);exact ⟨(by rw [h0,List.take_zero];simp [namesN];rfl),rfl,rfl,rfl,by simp⟩
       ·
        refine ⟨by simp,by omega,hb2,(fun t ht=>(hk2 t (by omega)))⟩
       ·
        refine Le.al ?_;simp only [List.forall_mem_cons];refine ⟨rfl,?_,rfl,rfl,rfl,by simp⟩;exact add_w1 (by simp only [cntN,List.take_zero,sizesV,hln];omega) (by simp only [List.take_zero,sizesV];omega)
theorem s87 (v:Val) (hmy:mayV v=true) (hrg:rngV v) (hsz:szV v≤1099511627776):PSpec Try.prog 87 [.d (encV v)] (.d (.int .i64 (sizeV v:Int))):=s87A _ v (Nat.lt_succ_self _) hmy hrg hsz
theorem may7 {i t xs ns} (h:mayV (.mk 7 i t xs ns)=true):ns.length=xs.length:=by
 simp [mayV,kindOk] at h;omega
def checkV (v:Val):Int:=if mayV v=false then 20 else if 8 < depthV v then 21 else if 4096 < sizeV v then 22 else 0
theorem fn53:FnOk Try.prog 53 15 [2] (bodyOf Try.f53):=⟨Try.f53,Try.func53,by kernel_rfl,by decide,by kernel_rfl,by kernel_rfl⟩
theorem s53 (v:Val) (hrg:rngV v) (hsz:szV v≤1099511627776):PSpec Try.prog 53 [.d (encV v)] (.d (.int .i64 (checkV v))):=by
 obtain ⟨kd,it,tx,xs,ns⟩:=v;refine PSpec.of fn53 (by simp) fun o nk=>?_;refine wr ?_;refine u_step (g_box rfl fun o2 hb2 hk2=>?_);refine ua ?_;refine u_nil ?_;refine WP.seq fun K3 hK3=>?_;refine WP.block ?_;refine wr ?_;refine ug th27 hb2 ?_;refine u_step (o_pcall (s34 (.mk kd it tx xs ns)) rfl ?_);refine uN ?_;refine ua ?_;refine u_nil ?_;refine wc (fun hc5=>?_) (fun hc5=>?_) <;> try simp only [Q0,Q1,Q2,Q3,Q4,Q5,Q6,Q7,Q8,ge_iff_le,gt_iff_lt] at hc5
 ·
  refine wr (ua (u_nil (WP.ret ?_)));refine ret_ok rfl ?_ (by omega) (fun t ht=>(hk2 t (by omega)));clear hK3;refine congrArg (D.int .i64) ?_;simp only [checkV]
  grind
 ·
  refine wr ?_;refine ug th27 hb2 ?_;refine u_step (o_pcall (s86 (.mk kd it tx xs ns) hsz) rfl ?_);refine ub ?_;refine ua ?_;refine u_nil ?_;refine wc (fun hc8=>?_) (fun hc8=>?_) <;> try simp only [Q0,Q1,Q2,Q3,Q4,Q5,Q6,Q7,Q8,ge_iff_le,gt_iff_lt] at hc8
  ·
   refine wr (ua (u_nil (WP.ret ?_)));refine ret_ok rfl ?_ (by omega) (fun t ht=>(hk2 t (by omega)));clear hK3;refine congrArg (D.int .i64) ?_;simp only [checkV]
   grind
  ·
   refine wr ?_;refine ug th27 hb2 ?_;refine u_step (o_pcall (s87 (.mk kd it tx xs ns) (by assumption) hrg hsz) rfl ?_);refine ub ?_;refine ua ?_;refine u_nil ?_;refine wc (fun hc11=>?_) (fun hc11=>?_) <;> try simp only [Q0,Q1,Q2,Q3,Q4,Q5,Q6,Q7,Q8,ge_iff_le,gt_iff_lt] at hc11
   ·
    refine wr (ua (u_nil (WP.ret ?_)));refine ret_ok rfl ?_ (by omega) (fun t ht=>(hk2 t (by omega)));clear hK3;refine congrArg (D.int .i64) ?_;simp only [checkV]
    grind
   ·
    refine WP.skip (hK3 _ (wr (ua (u_nil (WP.ret ?_)))));refine ret_ok rfl ?_ (by omega) (fun t ht=>(hk2 t (by omega)));clear hK3;refine congrArg (D.int .i64) ?_;simp only [checkV]
    grind
def noneV (v:Val):Bool:=decide (v.kind=0∧v.int=0∧v.text=[]∧v.items=[]∧v.names=[])
theorem same_refl (v:Val):sameV v v=true:=by simp [sameV]
theorem same_eq {v w:Val}:sameV v w=true↔v=w:=by simp [sameV]
theorem same_ne {v w:Val} (h:v≠w):sameV v w=false:=by simp [sameV,h]
theorem any_not {α:Type} (xs:List α) (p:α→Bool):(xs.any fun x=>!p x)=!xs.all p:=by
 induction xs with
 | nil=>rfl
 | cons x xs ih=>simp [ih,Bool.not_and]
theorem none_mk (k i:Int) (t:Str) (xs:List Val) (ns:List Str):noneV (.mk k i t xs ns)=decide (k=0∧i=0∧t=[]∧xs=[]∧ns=[]):=rfl
theorem fn71:FnOk Try.prog 71 6 [2] (bodyOf Try.f71):=⟨Try.f71,Try.func71,by kernel_rfl,by decide,by kernel_rfl,by kernel_rfl⟩
theorem s71 (s:Str):PSpec Try.prog 71 [.d (.str s)] (.d (.bool (!nameV s))):=by
 refine PSpec.of fn71 (by simp) fun o nk=>?_;refine wr (ua (u_nil (wr (um ?_))));refine u_step (o_pcall (s72 _) rfl ?_);refine uN (ua (u_nil (WP.ret ?_)));refine ret_ok rfl ?_ (by omega) (fun _ _=>rfl);rfl
theorem fn40:FnOk Try.prog 40 18 [2] (bodyOf Try.f40):=⟨Try.f40,Try.func40,by kernel_rfl,by decide,by kernel_rfl,by kernel_rfl⟩
theorem s40 (ns:List Str):PSpec Try.prog 40 [.d (.sl 1 (ns.map .str))] (.d (.bool (pathV ns))):=by
 refine PSpec.of fn40 (by simp) fun o nk=>?_;refine wr (ua (u_nil (wr ?_)));refine u_step (o_assignV (v:=.clo _ _ _) rfl ?_);refine u_nil (wr (um (un th22 ?_)));refine ub (um ?_);apply gT
 ·rfl
 ·intro hg;exact pm
 apply gT
 ·rfl
 ·intro hg;try simp only [hg,ct,Bt]
  exact pn th22
 apply gT
 ·rfl
 ·intro hg;try simp only [hg,ct,Bt]
  exact pb
 refine uA (um ?_);apply gT
 ·rfl
 ·intro hg;exact pm
 apply gT
 ·rfl
 ·intro hg;refine o_moveV (v:=.clo _ _ _) rfl ⟨rfl,rfl,rfl⟩
 apply gT
 ·rfl
 ·intro hg;try simp only [hg,ct,Bt]
  refine o_scall (s73 ns 71 [] [] (fun s=>!nameV s) (fun x hx=>s71 x _ _)) rfl ⟨rfl,rfl,rfl⟩
 apply gT
 ·rfl
 ·intro hg;try simp only [hg,ct,Bt]
  exact pN
 refine uA (ua (u_nil (WP.ret ?_)));refine ret_ok rfl ?_ (by omega) (fun _ _=>rfl);refine congrArg D.bool ?_;rw [any_not,Bool.eq_iff_iff];simp [pathV]
 grind
theorem fn54:FnOk Try.prog 54 26 [2] (bodyOf Try.f54):=⟨Try.f54,Try.func54,by kernel_rfl,by decide,by kernel_rfl,by kernel_rfl⟩
theorem s54 (v:Val) (hsz:szV v≤1099511627776):PSpec Try.prog 54 [.d (encV v)] (.d (.bool (noneV v))):=by
 obtain ⟨kd,it,tx,xs,ns⟩:=v;have hsz2:1+tx.length+szVs xs+szN ns≤1099511627776:=hsz;have hxl:=szVs_len xs;have hnl:=szN_len ns;refine PSpec.of fn54 (by simp) fun o nk=>?_;refine wr ?_;refine u_step (g_box rfl fun o2 hb2 hk2=>?_);refine ua (u_nil (wr (uf th27 th3 hb2 ?_)));refine ul th3 hb2 ?_;refine ub (um ?_);apply gT
 ·rfl
 ·intro hg;exact pf th27 th3 hb2
 apply gT
 ·rfl
 ·intro hg;try simp only [hg,ct,Bt]
  exact pl th3 hb2
 apply gT
 ·rfl
 ·intro hg;try simp only [hg,ct,Bt]
  exact pb
 refine uA (um ?_);apply gT
 ·rfl
 ·intro hg;exact pf th27 th9 hb2
 apply gT
 ·rfl
 ·intro hg;try simp only [hg,ct,Bt]
  exact pl th9 hb2
 apply gT
 ·rfl
 ·intro hg;try simp only [hg,ct,Bt]
  refine o_bin_str rfl (show _=SV.d (.str []) from rfl) rfl ⟨rfl,rfl,rfl⟩
 refine uA (um ?_);apply gT
 ·rfl
 ·intro hg;exact pf th27 th25 hb2
 apply gT
 ·rfl
 ·intro hg;try simp only [hg,ct,Bt]
  exact pl th25 hb2
 apply gT
 ·rfl
 ·intro hg;try simp only [hg,ct,Bt]
  exact pn th25
 apply gT
 ·rfl
 ·intro hg;exact pf th27 th22 hb2
 apply gT
 ·rfl
 ·intro hg;try simp only [hg,ct,Bt]
  exact pl th22 hb2
 apply gT
 ·rfl
 ·intro hg;try simp only [hg,ct,Bt]
  exact pn th22
 apply gT
 ·rfl
 ·intro hg;try simp only [hg,ct,Bt]
  exact pb
 apply gT
 ·rfl
 ·intro hg;try simp only [hg,ct,Bt]
  exact pb
 refine uA (ua (u_nil (WP.ret ?_)));refine ret_ok rfl ?_ (by omega) (fun t ht=>(hk2 t (by omega)))
 skip
 refine congrArg D.bool ?_;rw [wrap_i64 (by rw [encVs_length,List.length_map];omega) (by rw [encVs_length,List.length_map];omega),Bool.eq_iff_iff];rw [none_mk];simp only [Bool.and_eq_true,beq_iff_eq,decide_eq_true_eq,encVs_length,List.length_map];rw [← List.length_eq_zero_iff (l:=xs),← List.length_eq_zero_iff (l:=ns)]
 grind
theorem fn13:FnOk Try.prog 13 81 [4] (bodyOf Try.f13):=⟨Try.f13,Try.func13,by kernel_rfl,by decide,by kernel_rfl,by kernel_rfl⟩
theorem s13A (m:Nat):∀ (v w:Val),SizeOf.sizeOf v < m→PSpec Try.prog 13 [.d (encV v),.d (encV w)] (.d (.bool (sameV v w))):=by
 induction m with
 | zero=>intros;omega
 | succ m ih=>
  rintro ⟨kd,it,tx,xs,ns⟩ ⟨kd2,it2,tx2,ys,ms⟩ hv;refine PSpec.bd fun hbd=>?_;have hx:xs.length≤9223372036854775807:=by simpa [encVs_length] using hbd.1.2.2.2.1.1
  have hx2:ns.length≤9223372036854775807:=by simpa using hbd.1.2.2.2.2.1.1
  refine PSpec.of fn13 (by simp) fun o nk=>?_;refine wr ?_;refine u_step (g_box rfl fun o2 hb2 hk2=>?_);refine u_step (g_box rfl fun o3 hb3 hk3=>?_);have hb2_3:=(hk3 _ (by omega)).trans hb2;refine ua (u_nil (WP.seq fun K4 hK4=>?_));refine wr (uf th27 th3 hb2_3 ?_);refine ul th3 hb2_3 ?_;refine uf th27 th3 hb3 ?_;refine ul th3 hb3 ?_;refine ub (um ?_);apply gF
  ·rfl
  ·intro hg;exact pf th27 th3 hb2_3
  apply gF
  ·rfl
  ·intro hg;try simp only [hg,ct,Bt]
   exact pl th3 hb2_3
  apply gF
  ·rfl
  ·intro hg;exact pf th27 th3 hb3
  apply gF
  ·rfl
  ·intro hg;try simp only [hg,ct,Bt]
   exact pl th3 hb3
  apply gF
  ·rfl
  ·intro hg;try simp only [hg,ct,Bt]
   exact pb
  refine uO (um ?_);apply gF
  ·rfl
  ·intro hg;exact pf th27 th9 hb2_3
  apply gF
  ·rfl
  ·intro hg;try simp only [hg,ct,Bt]
   exact pl th9 hb2_3
  apply gF
  ·rfl
  ·intro hg;exact pf th27 th9 hb3
  apply gF
  ·rfl
  ·intro hg;try simp only [hg,ct,Bt]
   exact pl th9 hb3
  apply gF
  ·rfl
  ·intro hg;try simp only [hg,ct,Bt]
   exact ps
  refine uO (um ?_);apply gF
  ·rfl
  ·intro hg;exact pf th27 th25 hb2_3
  apply gF
  ·rfl
  ·intro hg;try simp only [hg,ct,Bt]
   exact pl th25 hb2_3
  apply gF
  ·rfl
  ·intro hg;try simp only [hg,ct,Bt]
   exact pn th25
  apply gF
  ·rfl
  ·intro hg;exact pf th27 th25 hb3
  apply gF
  ·rfl
  ·intro hg;try simp only [hg,ct,Bt]
   exact pl th25 hb3
  apply gF
  ·rfl
  ·intro hg;try simp only [hg,ct,Bt]
   exact pn th25
  apply gF
  ·rfl
  ·intro hg;try simp only [hg,ct,Bt]
   exact pb
  refine uO (um ?_);apply gF
  ·rfl
  ·intro hg;exact pf th27 th22 hb2_3
  apply gF
  ·rfl
  ·intro hg;try simp only [hg,ct,Bt]
   exact pl th22 hb2_3
  apply gF
  ·rfl
  ·intro hg;try simp only [hg,ct,Bt]
   exact pn th22
  apply gF
  ·rfl
  ·intro hg;exact pf th27 th22 hb3
  apply gF
  ·rfl
  ·intro hg;try simp only [hg,ct,Bt]
   exact pl th22 hb3
  apply gF
  ·rfl
  ·intro hg;try simp only [hg,ct,Bt]
   exact pn th22
  apply gF
  ·rfl
  ·intro hg;try simp only [hg,ct,Bt]
   exact pb
  refine uO ?_;refine u_nil ?_;refine wc (fun hc6=>?_) (fun hc6=>?_) <;> try simp only [Q0,Q1,Q2,Q3,Q4,Q5,Q6,Q7,Q8,ge_iff_le,gt_iff_lt] at hc6
  ·
   refine wr (ua (u_nil (WP.ret ?_)));refine ret_ok rfl ?_ (by omega) (fun t ht=>(hk3 t (by omega)).trans ((hk2 t (by omega))));clear hK4;refine congrArg D.bool (same_ne ?_).symm;intro e;simp only [Val.mk.injEq] at e;obtain ⟨rfl,rfl,rfl,rfl,rfl⟩:=e;simp at hc6
  ·
   have hq:=hc6;simp [encVs_length] at hq;obtain ⟨⟨⟨⟨q1,q2⟩,q3⟩,q4⟩,q5⟩:=hq;refine WP.skip (hK4 _ (WP.seq fun K8 hK8=>?_));refine wr (ua (u_nil (WP.block ?_)));refine WP.loopL (ι:=Nat) (fun i=>⟨al [(2,.loc nk 0),(3,.loc (nk+1) 0),(5,.d (.int .i64 i))],o3,((nk+1)+1)⟩) (fun i=>i≤xs.length∧∀ (j:Nat) (hj:j < xs.length) (hk:j < ys.length),j < i→xs[j]=ys[j]) (fun i=>xs.length - i) (fun i hA=>?_) 0 ?_ ?_
   ·
    obtain ⟨hle_i,hin_i⟩:=hA;refine WP.seq fun K10 hK10=>?_;refine wr ?_;refine um ?_;refine uf th27 th25 hb2_3 ?_;refine ul th25 hb2_3 ?_;refine un th25 ?_;refine ub ?_;refine u_nil ?_;refine wc (fun hc12=>?_) (fun hc12=>?_) <;> try simp only [Q0,Q1,Q2,Q3,Q4,Q5,Q6,Q7,Q8,ge_iff_le,gt_iff_lt] at hc12
    ·
     refine WP.skip (hK10 _ (WP.seq fun K13 hK13=>?_));refine WP.block (wd ?_);refine df th27 th25 hb2_3 ?_;refine dl th25 hb2_3 ?_;refine dm ?_
     first | refine d_step (o_ia_map rfl rfl th25 rfl th27 rfl (by omega) ⟨rfl,rfl,rfl⟩) ?_ | refine d_step (o_ia_vs rfl rfl th25 rfl th27 rfl (by omega) ⟨rfl,rfl,rfl⟩) ?_
     refine dL th27 ?_;refine df th27 th25 hb3 ?_;refine dl th25 hb3 ?_;refine dm ?_
     first | refine d_step (o_ia_map rfl rfl th25 rfl th27 rfl (by omega) ⟨rfl,rfl,rfl⟩) ?_ | refine d_step (o_ia_vs rfl rfl th25 rfl th27 rfl (by omega) ⟨rfl,rfl,rfl⟩) ?_
     refine dL th27 ?_;refine d_step (o_pcall (ih _ _ (by exact items_lt' (by omega) hv)) rfl ⟨rfl,rfl,rfl⟩) ?_;refine dN ?_;refine d_nil ?_;refine wc (fun hc15=>?_) (fun hc15=>?_) <;> try simp only [Q0,Q1,Q2,Q3,Q4,Q5,Q6,Q7,Q8,ge_iff_le,gt_iff_lt] at hc15
     ·
      refine wr (ua (u_nil (WP.ret ?_)));refine ret_ok rfl ?_ (by omega) (fun t ht=>(hk3 t (by omega)).trans ((hk2 t (by omega))));clear hK4 hK8 hK10 hK13;refine congrArg D.bool (same_ne ?_).symm;intro e;simp only [Val.mk.injEq] at e;obtain ⟨rfl,rfl,rfl,rfl,rfl⟩:=e;rw [same_refl] at hc15;cases hc15
     ·
      refine WP.skip (hK13 _ (WP.reg tabOk rfl ?_));refine um (ub (ua (u_nil ?_)));refine ⟨i+1,⟨by omega,?_⟩,by omega,?_⟩
      ·intro j hj hk h1;by_cases h2:j=i
       ·subst h2;exact same_eq.1 (by simpa using hc15)
       ·exact hin_i j hj hk (by omega)
      ·refine Le.al ?_;simp only [List.forall_mem_cons];exact ⟨rfl,rfl,cnt (by omega),by simp⟩
    ·
     refine WP.exit ?_;refine hK8 _ (WP.seq fun K17 hK17=>?_);refine wr (ua (u_nil (WP.block ?_)));refine WP.loopL (ι:=Nat) (fun j=>⟨al [(2,.loc nk 0),(3,.loc (nk+1) 0),(6,.d (.int .i64 j))],o3,((nk+1)+1)⟩) (fun j=>j≤ns.length∧∀ (a:Nat) (hj:a < ns.length) (hk:a < ms.length),a < j→ns[a]=ms[a]) (fun j=>ns.length - j) (fun j hA=>?_) 0 ?_ ?_
     ·
      obtain ⟨hle_j,hin_j⟩:=hA;refine WP.seq fun K19 hK19=>?_;refine wr ?_;refine um ?_;refine uf th27 th22 hb2_3 ?_;refine ul th22 hb2_3 ?_;refine un th22 ?_;refine ub ?_;refine u_nil ?_;refine wc (fun hc21=>?_) (fun hc21=>?_) <;> try simp only [Q0,Q1,Q2,Q3,Q4,Q5,Q6,Q7,Q8,ge_iff_le,gt_iff_lt] at hc21
      ·
       refine WP.skip (hK19 _ (WP.seq fun K22 hK22=>?_));refine WP.block (wd ?_);refine df th27 th22 hb2_3 ?_;refine dl th22 hb2_3 ?_;refine dm ?_
       refine d_step (o_ia_map rfl rfl th22 rfl th9 rfl (by omega) ⟨rfl,rfl,rfl⟩) ?_
       refine dL th9 ?_;refine df th27 th22 hb3 ?_;refine dl th22 hb3 ?_;refine dm ?_
       refine d_step (o_ia_map rfl rfl th22 rfl th9 rfl (by omega) ⟨rfl,rfl,rfl⟩) ?_
       refine dL th9 ?_;refine ds ?_;refine d_nil ?_;refine wc (fun hc24=>?_) (fun hc24=>?_) <;> try simp only [Q0,Q1,Q2,Q3,Q4,Q5,Q6,Q7,Q8,ge_iff_le,gt_iff_lt] at hc24
       ·
        refine wr (ua (u_nil (WP.ret ?_)));refine ret_ok rfl ?_ (by omega) (fun t ht=>(hk3 t (by omega)).trans ((hk2 t (by omega))));clear hK4 hK8 hK10 hK17 hK19 hK22;refine congrArg D.bool (same_ne ?_).symm;intro e;simp only [Val.mk.injEq] at e;obtain ⟨rfl,rfl,rfl,rfl,rfl⟩:=e;simp at hc24
       ·
        refine WP.skip (hK22 _ (WP.reg tabOk rfl ?_));refine um (ub (ua (u_nil ?_)));refine ⟨j+1,⟨by omega,?_⟩,by omega,?_⟩
        ·intro a ha hk h1;by_cases h2:a=j
         ·subst h2;simpa using hc24
         ·exact hin_j a ha hk (by omega)
        ·refine Le.al ?_;simp only [List.forall_mem_cons];exact ⟨rfl,rfl,cnt (by omega),by simp⟩
      ·
       refine WP.exit ?_;refine hK17 _ (wr (ua (u_nil (WP.ret ?_))));refine ret_ok rfl ?_ (by omega) (fun t ht=>(hk3 t (by omega)).trans ((hk2 t (by omega))));have e1:xs=ys:=List.ext_getElem (by omega) fun j h1 h2=>hin_i j h1 h2 (by omega);have e2:ns=ms:=List.ext_getElem (by omega) fun j h1 h2=>hin_j j h1 h2 (by omega);rw [q1,q2,q3,e1,e2,same_refl]
     ·
      simp
     ·
      refine Le.al ?_;simp only [List.forall_mem_cons];exact ⟨rfl,rfl,rfl,by simp⟩
   ·
    simp
   ·
    refine Le.al ?_;simp only [List.forall_mem_cons];exact ⟨rfl,rfl,rfl,by simp⟩
theorem s13 (v w:Val):PSpec Try.prog 13 [.d (encV v),.d (encV w)] (.d (.bool (sameV v w))):=s13A _ v w (Nat.lt_succ_self _)
theorem o_ia_mapG {P:Program} {Θ:Tab} {K:SV→(Nat→Option AO)→Nat→Prop} {sl:Nat→SV} {o:Nat→Option AO} {nk:Nat} {x ix:Operand} {t e:Nat} {α:Type} {i j:TI} {z:Nat} {xs:List α} {g:α→D} {k:IntKind} {m:Nat} (d0:α) (hx:ev sl x=.d (.sl z (xs.map g))) (hy:ev sl ix=.d (.int k (m:Int))) (hi:Θ t=some i) (hk:i.k=.slice e) (hj:Θ e=some j) (hz:z=j.sz) (hlt:m < xs.length) (h:K (.el (g (xs.getD m d0))) o nk):vOp P Θ (.indexAddr t x ix) ⟨sl,o,nk⟩ K:=by
 have hg:xs.getD m d0=xs[m]'hlt:=by simp [hlt]
 rw [hg] at h;exact o_ia_map hx hy hi hk hj hz hlt h
theorem begins_yes {a b:List Str} (hl:a.length≤b.length) (h:∀ (j:Nat) (hj:j < a.length) (hk:j < b.length),a[j]=b[j]):beginsV a b=true:=by
 unfold beginsV;rw [decide_eq_true_eq,List.prefix_iff_eq_take];refine List.ext_getElem (by simp;omega) fun j h1 h2=>?_;rw [List.getElem_take];exact h j h1 (by omega)
theorem begins_no {a b:List Str} {i:Nat} (h:i < a.length) (hb:b.length≤i∨∃ hk:i < b.length,a[i]≠b[i]):beginsV a b=false:=by
 unfold beginsV;rw [decide_eq_false_iff_not];intro hp;have hl:=hp.length_le;rcases hb with hb | ⟨hk,hb⟩
 ·omega
 ·exact hb (hp.getElem h)
theorem fn23:FnOk Try.prog 23 27 [4] (bodyOf Try.f23):=⟨Try.f23,Try.func23,by kernel_rfl,by decide,by kernel_rfl,by kernel_rfl⟩
theorem s23 (a b:List Str):PSpec Try.prog 23 [.d (.sl 1 (a.map .str)),.d (.sl 1 (b.map .str))] (.d (.bool (beginsV a b))):=by
 refine PSpec.bd fun hbd=>?_;have hx:a.length≤9223372036854775807:=by simpa using hbd.1.1
 refine PSpec.of fn23 (by simp) fun o nk=>?_;refine wr (ua (u_nil (WP.seq fun K2 hK2=>?_)));refine wr (ua (u_nil (WP.block ?_)));refine WP.loopL (ι:=Nat) (fun i=>⟨al [(0,.d (.sl 1 (a.map .str))),(1,.d (.sl 1 (b.map .str))),(5,.d (.int .i64 i))],o,nk⟩) (fun i=>i≤a.length∧i≤b.length∧∀ (j:Nat) (hj:j < a.length) (hk:j < b.length),j < i→a[j]=b[j]) (fun i=>a.length - i) (fun i hA=>?_) 0 ?_ ?_
 ·
  obtain ⟨hle_i,hin_i⟩:=hA;refine WP.seq fun K4 hK4=>?_;refine wr ?_;refine um ?_;refine um ?_;refine un th22 ?_;refine ub ?_;refine u_nil ?_;refine wc (fun hc6=>?_) (fun hc6=>?_) <;> try simp only [Q0,Q1,Q2,Q3,Q4,Q5,Q6,Q7,Q8,ge_iff_le,gt_iff_lt] at hc6
  ·
   refine WP.skip (hK4 _ (WP.seq fun K7 hK7=>?_));refine WP.block (wd ?_);refine dm ?_;refine dm ?_;refine dn th22 ?_;refine db ?_;refine dm ?_;apply d_guard
   ·exact GC.f _
   ·intro hg;exact pm
   apply d_guard
   ·exact GC.f _
   ·intro hg;exact pm
   apply d_guard
   ·exact GC.f _
   ·intro hg;try simp only [hg,ct,Bt]
    have hg2:=hg;try simp only [Q0,Q1,Q2,Q3,Q4,Q5,Q6,Q9,Qa,Qb,Qc,Qd] at hg2
    refine o_ia_map rfl rfl th22 rfl th9 rfl (by omega) ⟨rfl,rfl,rfl⟩
   apply d_guard
   ·exact GC.f _
   ·intro hg;try simp only [hg,ct,Bt]
    exact pL th9
   apply d_guard
   ·exact GC.f _
   ·intro hg;exact pm
   apply d_guard
   ·exact GC.f _
   ·intro hg;exact pm
   apply d_guard
   ·exact GC.f _
   ·intro hg;try simp only [hg,ct,Bt]
    have hg2:=hg;try simp only [Q0,Q1,Q2,Q3,Q4,Q5,Q6,Q9,Qa,Qb,Qc,Qd] at hg2
    refine o_ia_mapG (xs:=b) ([]:Str) rfl rfl th22 rfl th9 rfl (by omega) ⟨rfl,rfl,rfl⟩
   apply d_guard
   ·exact GC.f _
   ·intro hg;try simp only [hg,ct,Bt]
    exact pL th9
   apply d_guard
   ·exact GC.f _
   ·intro hg;try simp only [hg,ct,Bt]
    exact ps
   refine dO ?_;refine d_nil ?_;refine wc (fun hc9=>?_) (fun hc9=>?_) <;> try simp only [Q0,Q1,Q2,Q3,Q4,Q5,Q6,Q7,Q8,ge_iff_le,gt_iff_lt] at hc9
   ·
    refine wr (ua (u_nil (WP.ret ?_)));refine ret_ok rfl ?_ (by omega) (fun _ _=>rfl);rw [begins_no (by omega) ?_];by_cases hb:b.length≤i
    ·exact .inl hb
    ·have hk:i < b.length:=by omega
     exact .inr ⟨hk,by simpa [hb,hk] using hc9⟩
   ·
    refine WP.skip (hK7 _ (WP.reg tabOk rfl ?_));refine um (ub (ua (u_nil ?_)));refine ⟨i+1,⟨by omega,?_⟩,by omega,?_⟩
    ·have hq:=Bool.or_eq_false_iff.1 hc9;have hq1:¬ b.length≤i:=by simpa using hq.1
     refine ⟨by omega,fun j hj hk h1=>?_⟩;by_cases h2:j=i
     ·subst h2;simpa [hk] using hq.2
     ·exact hin_i.2 j hj hk (by omega)
    ·refine Le.al ?_;simp only [List.forall_mem_cons];exact ⟨rfl,rfl,cnt (by omega),by simp⟩
  ·
   refine WP.exit ?_;refine hK2 _ (wr (ua (u_nil (WP.ret ?_))));refine ret_ok rfl ?_ (by omega) (fun _ _=>rfl);rw [begins_yes (by omega) fun j hj hk=>hin_i.2 j hj hk (by omega)]
 ·
  simp
 ·
  refine Le.al ?_;simp only [List.forall_mem_cons];exact ⟨rfl,rfl,rfl,by simp⟩
def meetV (a b:List Str):Bool:=beginsV a b || beginsV b a
def mayD (d:Dlt):Bool:=pathV d.path && (if d.kind=1 then decide (checkV d.value=0) && decide (d.n=0) else if d.kind=2 then noneV d.value && decide (d.n=0) else if d.kind=3 then noneV d.value && decide (0≤d.n) && decide (d.n≤999) else false)
def okD (d:Dlt):Prop:=rngV d.value∧szV d.value≤1099511627776
def checkD (l:List Dlt):Int:=if 64 < l.length then 3 else if l.all mayD then 0 else 1
theorem fn31:FnOk Try.prog 31 45 [2] (bodyOf Try.f31):=⟨Try.f31,Try.func31,by kernel_rfl,by decide,by kernel_rfl,by kernel_rfl⟩
theorem s31 (d:Dlt) (hd:okD d):PSpec Try.prog 31 [.d (encD d)] (.d (.bool (mayD d))):=by
 refine PSpec.of fn31 (by simp) fun o nk=>?_;refine wr ?_;refine u_step (g_box rfl fun o2 hb2 hk2=>?_);refine ua ?_;refine u_nil ?_;refine WP.seq fun K3 hK3=>?_;refine wr ?_;refine uf th46 th22 hb2 ?_;refine ul th22 hb2 ?_;refine u_step (o_pcall (s40 _) rfl ?_);refine uN ?_;refine u_nil ?_;refine wc (fun hc5=>?_) (fun hc5=>?_) <;> try simp only [Q0,Q1,Q2,Q3,Q4,Q5,Q6,Q7,Q8,ge_iff_le,gt_iff_lt] at hc5
 ·
  refine wr (ua (u_nil (WP.ret ?_)));refine ret_ok rfl ?_ (by omega) (fun t ht=>(hk2 t (by omega)));clear hK3;refine congrArg D.bool ?_;simp only [mayD]
  grind
 ·
  refine WP.skip ?_;refine hK3 _ ?_;refine WP.seq fun K7 hK7=>?_;refine wr ?_;refine uf th46 th3 hb2 ?_;refine ul th3 hb2 ?_;refine u_nil ?_;refine WP.block ?_;refine wr ?_;refine ub ?_;refine ua ?_;refine u_nil ?_;refine wc (fun hc10=>?_) (fun hc10=>?_) <;> try simp only [Q0,Q1,Q2,Q3,Q4,Q5,Q6,Q7,Q8,ge_iff_le,gt_iff_lt] at hc10
  ·
   refine wr (uf th46 th27 hb2 ?_);refine ug th27 hb2 ?_;refine u_step (o_pcall (pv (v:=d.value) (s53 d.value hd.1 hd.2)) rfl ?_);refine ub (um ?_);apply gT
   ·rfl
   ·intro hg;exact pf th46 th3 hb2
   apply gT
   ·rfl
   ·intro hg;try simp only [hg,ct,Bt]
    exact pl th3 hb2
   apply gT
   ·rfl
   ·intro hg;try simp only [hg,ct,Bt]
    exact pb
   refine uA (ua (u_nil (WP.ret ?_)));refine ret_ok rfl ?_ (by omega) (fun t ht=>(hk2 t (by omega)));clear hK3 hK7;refine congrArg D.bool ?_;simp only [mayD]
   grind
  ·
   refine wr ?_;refine ub ?_;refine ua ?_;refine u_nil ?_;refine wc (fun hc13=>?_) (fun hc13=>?_) <;> try simp only [Q0,Q1,Q2,Q3,Q4,Q5,Q6,Q7,Q8,ge_iff_le,gt_iff_lt] at hc13
   ·
    refine wr (uf th46 th27 hb2 ?_);refine ug th27 hb2 ?_;refine u_step (o_pcall (pv (v:=d.value) (s54 d.value hd.2)) rfl ?_);refine um ?_;apply gT
    ·rfl
    ·intro hg;exact pf th46 th3 hb2
    apply gT
    ·rfl
    ·intro hg;try simp only [hg,ct,Bt]
     exact pl th3 hb2
    apply gT
    ·rfl
    ·intro hg;try simp only [hg,ct,Bt]
     exact pb
    refine uA (ua (u_nil (WP.ret ?_)));refine ret_ok rfl ?_ (by omega) (fun t ht=>(hk2 t (by omega)));clear hK3 hK7;refine congrArg D.bool ?_;simp only [mayD]
    grind
   ·
    refine wr ?_;refine ub ?_;refine ua ?_;refine u_nil ?_;refine wc (fun hc16=>?_) (fun hc16=>?_) <;> try simp only [Q0,Q1,Q2,Q3,Q4,Q5,Q6,Q7,Q8,ge_iff_le,gt_iff_lt] at hc16
    ·
     refine wr (uf th46 th27 hb2 ?_);refine ug th27 hb2 ?_;refine u_step (o_pcall (pv (v:=d.value) (s54 d.value hd.2)) rfl ?_);refine um ?_;apply gT
     ·rfl
     ·intro hg;exact pf th46 th3 hb2
     apply gT
     ·rfl
     ·intro hg;try simp only [hg,ct,Bt]
      exact pl th3 hb2
     apply gT
     ·rfl
     ·intro hg;try simp only [hg,ct,Bt]
      exact pb
     refine uA (um ?_);apply gT
     ·rfl
     ·intro hg;exact pf th46 th3 hb2
     apply gT
     ·rfl
     ·intro hg;try simp only [hg,ct,Bt]
      exact pl th3 hb2
     apply gT
     ·rfl
     ·intro hg;try simp only [hg,ct,Bt]
      exact pb
     refine uA (ua (u_nil (WP.ret ?_)));refine ret_ok rfl ?_ (by omega) (fun t ht=>(hk2 t (by omega)));clear hK3 hK7;refine congrArg D.bool ?_;simp only [mayD]
     grind
    ·
     refine WP.skip (hK7 _ (wr (ua (u_nil (WP.ret ?_)))));refine ret_ok rfl ?_ (by omega) (fun t ht=>(hk2 t (by omega)));clear hK3 hK7;refine congrArg D.bool ?_;simp only [mayD]
     grind
theorem fn52:FnOk Try.prog 52 6 [2] (bodyOf Try.f52):=⟨Try.f52,Try.func52,by kernel_rfl,by decide,by kernel_rfl,by kernel_rfl⟩
theorem s52 (d:Dlt) (hd:okD d):PSpec Try.prog 52 [.d (encD d)] (.d (.bool (!mayD d))):=by
 refine PSpec.of fn52 (by simp) fun o nk=>?_;refine wr ?_;refine u_step (g_box rfl fun o2 hb2 hk2=>?_);refine ua (u_nil (wr (ug th46 hb2 ?_)));refine u_step (o_pcall (s31 d hd) rfl ?_);refine uN (ua (u_nil (WP.ret ?_)));refine ret_ok rfl ?_ (by omega) (fun t ht=>(hk2 t (by omega)));rfl
theorem fn30:FnOk Try.prog 30 10 [2] (bodyOf Try.f30):=⟨Try.f30,Try.func30,by kernel_rfl,by decide,by kernel_rfl,by kernel_rfl⟩
theorem s30 (l:List Dlt) (hl:l.length≤64→∀ d∈l,okD d):PSpec Try.prog 30 [.d (.sl 8 (l.map encD))] (.d (.int .i64 (checkD l))):=by
 refine PSpec.of fn30 (by simp) fun o nk=>?_;refine wr ?_;refine ua ?_;refine u_nil ?_;refine WP.seq fun K2 hK2=>?_;refine WP.block ?_;refine wr ?_;refine um ?_;refine un th28 ?_;refine ub ?_;refine ua ?_;refine u_nil ?_;refine wc (fun hc4=>?_) (fun hc4=>?_) <;> try simp only [Q0,Q1,Q2,Q3,Q4,Q5,Q6,Q7,Q8,ge_iff_le,gt_iff_lt] at hc4
 ·
  refine wr (ua (u_nil (WP.ret ?_)));refine ret_ok rfl ?_ (by omega) (fun _ _=>rfl);clear hK2;refine congrArg (D.int .i64) ?_
  try simp only [any_not] at hc4
  simp only [checkD]
  grind
 ·
  refine wr ?_;refine um ?_;refine u_step (o_scall (s51 l 52 [] [] (fun d=>!mayD d) (fun x hx=>s52 x (hl (by omega) x hx) _ _)) rfl ?_);refine ua ?_;refine u_nil ?_;refine wc (fun hc7=>?_) (fun hc7=>?_) <;> try simp only [Q0,Q1,Q2,Q3,Q4,Q5,Q6,Q7,Q8,ge_iff_le,gt_iff_lt] at hc7
  ·
   refine wr (ua (u_nil (WP.ret ?_)));refine ret_ok rfl ?_ (by omega) (fun _ _=>rfl);clear hK2;refine congrArg (D.int .i64) ?_
   try simp only [any_not] at hc4 hc7
   simp only [checkD]
   grind
  ·
   refine WP.skip (hK2 _ (wr (ua (u_nil (WP.ret ?_)))));refine ret_ok rfl ?_ (by omega) (fun _ _=>rfl);clear hK2;refine congrArg (D.int .i64) ?_
   try simp only [any_not] at hc4 hc7
   simp only [checkD]
   grind
def freeD (l:List Dlt):Bool:=decide (l.Pairwise fun a b=>meetV a.path b.path=false)
theorem meet_comm (a b:List Str):meetV a b=meetV b a:=by simp [meetV,Bool.or_comm]
theorem free_no {l:List Dlt} {i k:Nat} (hi:i < l.length) (hk:k < i) (h:meetV (l[k]'(by omega)).path (l[i]'hi).path=true):freeD l=false:=by
 unfold freeD;rw [decide_eq_false_iff_not];intro hp;have:=(List.pairwise_iff_getElem.1 hp) k i (by omega) hi hk;rw [h] at this;cases this
theorem free_yes {l:List Dlt} (h:∀ (a b:Nat) (ha:a < l.length) (hb:b < l.length),a < b→meetV l[a].path l[b].path=false):freeD l=true:=by
 unfold freeD;rw [decide_eq_true_eq];exact List.pairwise_iff_getElem.2 fun i j hi hj hij=>h i j hi hj hij
theorem fn10:FnOk Try.prog 10 40 [2] (bodyOf Try.f10):=⟨Try.f10,Try.func10,by kernel_rfl,by decide,by kernel_rfl,by kernel_rfl⟩
theorem s10 (l:List Dlt):PSpec Try.prog 10 [.d (.sl 8 (l.map encD))] (.d (.bool (freeD l))):=by
 refine PSpec.bd fun hbd=>?_;have hx:l.length≤9223372036854775807:=by simpa using hbd.1.1
 refine PSpec.of fn10 (by simp) fun o nk=>?_;refine wr (ua (u_nil (WP.seq fun K2 hK2=>?_)));refine wr (ua (u_nil (WP.block ?_)));refine WP.loopL (ι:=Nat) (fun i=>⟨al [(0,.d (.sl 8 (l.map encD))),(3,.d (.int .i64 i))],o,nk⟩) (fun i=>i≤l.length∧∀ (a b:Nat) (ha:a < l.length) (hb:b < l.length),a < b→b < i→meetV l[a].path l[b].path=false) (fun i=>l.length - i) (fun i hA=>?_) 0 ?_ ?_
 ·
  obtain ⟨hle_i,hin_i⟩:=hA;refine WP.seq fun K4 hK4=>?_;refine wr ?_;refine um ?_;refine um ?_;refine un th28 ?_;refine ub ?_;refine u_nil ?_;refine wc (fun hc6=>?_) (fun hc6=>?_) <;> try simp only [Q0,Q1,Q2,Q3,Q4,Q5,Q6,Q7,Q8,ge_iff_le,gt_iff_lt] at hc6
  ·
   refine WP.skip (hK4 _ (WP.seq fun K7 hK7=>?_));refine WP.block (wr (ua (u_nil (WP.block ?_))));refine WP.loopL (ι:=Nat) (fun j=>⟨al [(0,.d (.sl 8 (l.map encD))),(3,.d (.int .i64 i)),(4,.d (.int .i64 j))],o,nk⟩) (fun j=>j≤i∧∀ (a:Nat) (ha:a < l.length),a < j→meetV l[a].path l[i].path=false) (fun j=>i - j) (fun j hA=>?_) 0 ?_ ?_
   ·
    obtain ⟨hle_j,hin_j⟩:=hA;refine WP.seq fun K9 hK9=>?_;refine wr ?_;refine um ?_;refine um ?_;refine ub ?_;refine u_nil ?_;refine wc (fun hc11=>?_) (fun hc11=>?_) <;> try simp only [Q0,Q1,Q2,Q3,Q4,Q5,Q6,Q7,Q8,ge_iff_le,gt_iff_lt] at hc11
    ·
     refine WP.skip (hK9 _ (WP.seq fun K12 hK12=>?_));refine WP.block (wd ?_);refine dm ?_;refine dm ?_
     refine d_step (o_ia_map rfl rfl th28 rfl th46 rfl (by omega) ⟨rfl,rfl,rfl⟩) ?_
     refine dF th46 th22 ?_;refine dL th22 ?_;refine dm ?_;refine dm ?_
     refine d_step (o_ia_map rfl rfl th28 rfl th46 rfl (by omega) ⟨rfl,rfl,rfl⟩) ?_
     refine dF th46 th22 ?_;refine dL th22 ?_;refine d_step (o_pcall (s23 _ _) rfl ⟨rfl,rfl,rfl⟩) ?_;refine dm ?_;apply d_guard
     ·exact GC.f _
     ·intro hg;exact pm
     apply d_guard
     ·exact GC.f _
     ·intro hg;exact pm
     apply d_guard
     ·exact GC.f _
     ·intro hg;try simp only [hg,ct,Bt]
      have hg2:=hg;try simp only [Q0,Q1,Q2,Q3,Q4,Q5,Q6,Q9,Qa,Qb,Qc,Qd] at hg2
      refine o_ia_map rfl rfl th28 rfl th46 rfl (by omega) ⟨rfl,rfl,rfl⟩
     apply d_guard
     ·exact GC.f _
     ·intro hg;try simp only [hg,ct,Bt]
      exact pF th46 th22
     apply d_guard
     ·exact GC.f _
     ·intro hg;try simp only [hg,ct,Bt]
      exact pL th22
     apply d_guard
     ·exact GC.f _
     ·intro hg;exact pm
     apply d_guard
     ·exact GC.f _
     ·intro hg;exact pm
     apply d_guard
     ·exact GC.f _
     ·intro hg;try simp only [hg,ct,Bt]
      have hg2:=hg;try simp only [Q0,Q1,Q2,Q3,Q4,Q5,Q6,Q9,Qa,Qb,Qc,Qd] at hg2
      refine o_ia_map rfl rfl th28 rfl th46 rfl (by omega) ⟨rfl,rfl,rfl⟩
     apply d_guard
     ·exact GC.f _
     ·intro hg;try simp only [hg,ct,Bt]
      exact pF th46 th22
     apply d_guard
     ·exact GC.f _
     ·intro hg;try simp only [hg,ct,Bt]
      exact pL th22
     apply d_guard
     ·exact GC.f _
     ·intro hg;try simp only [hg,ct,Bt]
      refine o_pcall (s23 _ _) rfl ⟨rfl,rfl,rfl⟩
     refine dO ?_;refine d_nil ?_;refine wc (fun hc14=>?_) (fun hc14=>?_) <;> try simp only [Q0,Q1,Q2,Q3,Q4,Q5,Q6,Q7,Q8,ge_iff_le,gt_iff_lt] at hc14
     ·
      refine wr (ua (u_nil (WP.ret ?_)));refine ret_ok rfl ?_ (by omega) (fun _ _=>rfl);rw [free_no (i:=i) (k:=j) (by omega) (by omega) (by rw [meet_comm];exact hc14)]
     ·
      refine WP.skip (hK12 _ (WP.reg tabOk rfl ?_));refine um (ub (ua (u_nil ?_)));refine ⟨j+1,⟨by omega,?_⟩,by omega,?_⟩
      ·intro a ha h1;by_cases haj:a=j
       ·subst haj;rw [meet_comm];exact hc14
       ·exact hin_j a ha (by omega)
      ·refine Le.al ?_;simp only [List.forall_mem_cons];exact ⟨rfl,rfl,cnt (by omega),by simp⟩
    ·
     refine WP.exit ?_;refine hK7 _ (WP.reg tabOk rfl ?_);refine um (ub (ua (u_nil ?_)));refine ⟨i+1,⟨by omega,?_⟩,by omega,?_⟩
     ·intro a b ha hb h1 h2;by_cases hbi:b=i
      ·subst hbi;exact hin_j a ha (by omega)
      ·exact hin_i a b ha hb h1 (by omega)
     ·refine Le.al ?_;simp only [List.forall_mem_cons];exact ⟨rfl,cnt (by omega),by simp⟩
   ·
    simp
   ·
    refine Le.al ?_;simp only [List.forall_mem_cons];exact ⟨rfl,rfl,rfl,by simp⟩
  ·
   refine WP.exit ?_;refine hK2 _ (wr (ua (u_nil (WP.ret ?_))));refine ret_ok rfl ?_ (by omega) (fun _ _=>rfl);rw [free_yes fun a b ha hb h1=>hin_i a b ha hb h1 (by omega)]
 ·
  simp
 ·
  refine Le.al ?_;simp only [List.forall_mem_cons];exact ⟨rfl,rfl,by simp⟩
def cmpI (a b:Int):Int:=if a < b then -1 else if b < a then 1 else 0
def orI:List Int→Int
 | []=>0
 | x :: r=>if x=0 then orI r else x
def idxS (ns:List Str) (s:Str):Int:=firstI (fun x=>decide (s=x)) ns
theorem fn98:FnOk Try.prog 98 19 [4] (bodyOf Try.f98):=⟨Try.f98,Try.func98,by kernel_rfl,by decide,by kernel_rfl,by kernel_rfl⟩
theorem s98 (ns:List Str) (s:Str):PSpec Try.prog 98 [.d (.sl 1 (ns.map .str)),.d (.str s)] (.d (.int .i64 (idxS ns s))):=by
 refine PSpec.bd fun hbd=>?_;have hx:ns.length≤9223372036854775807:=by simpa using hbd.1.1
 refine PSpec.of fn98 (by simp) fun o nk=>?_;refine wr (ua (u_nil (WP.seq fun K2 hK2=>?_)));refine wr (um (un th22 ?_));refine um (u_nil (WP.block ?_));refine WP.loopL (ι:=Nat) (fun i=>⟨al [(0,.d (.sl 1 (ns.map .str))),(1,.d (.str s)),(7,.d (.int .i64 (ns.map D.str).length)),(8,.d (.int .i64 i))],o,nk⟩) (fun i=>i≤ns.length∧∀ (j:Nat) (hj:j < ns.length),j < i→decide (s=ns[j])=false) (fun i=>ns.length - i) (fun i hA=>?_) 0 ?_ ?_
 ·
  obtain ⟨hle_i,hin_i⟩:=hA;refine wr ?_;refine ub ?_;refine u_nil ?_;refine WP.seq fun K5 hK5=>?_;refine wc (fun hc6=>?_) (fun hc6=>?_) <;> try simp only [Q0,Q1,Q2,Q3,Q4,Q5,Q6,Q7,Q8,ge_iff_le,gt_iff_lt] at hc6
  ·
   refine WP.skip (hK5 _ (WP.seq fun K7 hK7=>?_));refine WP.block (wr (um (ua (u_nil (wr (um (um (um ?_))))))))
   refine u_step (o_ia_map rfl rfl th22 rfl th9 rfl (by omega) ?_)
   refine uL th9 ?_;refine us ?_;refine u_nil ?_;refine wc (fun hc10=>?_) (fun hc10=>?_) <;> try simp only [Q0,Q1,Q2,Q3,Q4,Q5,Q6,Q7,Q8,ge_iff_le,gt_iff_lt] at hc10
   ·
    refine wr (um (ua (u_nil (WP.ret ?_))));refine ret_ok rfl ?_ (by omega) (fun _ _=>rfl);rw [idxS,firstI_at (p:=fun x=>decide (s=x)) (xs:=ns) (i:=i) (by omega) (decide_eq_true hc10) hin_i]
   ·
    refine WP.skip (hK7 _ (WP.reg tabOk rfl ?_));refine ub (um (u_nil ?_));refine ⟨i+1,⟨by omega,?_⟩,by omega,?_⟩
    ·intro j hj h1;by_cases h2:j=i
     ·subst h2;exact decide_eq_false hc10
     ·exact hin_i j hj (by omega)
    ·refine Le.al ?_;simp only [List.forall_mem_cons];exact ⟨rfl,rfl,rfl,cnt (by omega),by simp⟩
  ·
   refine WP.exit ?_;refine hK2 _ (wr (ua (u_nil (WP.ret ?_))));refine ret_ok rfl ?_ (by omega) (fun _ _=>rfl);rw [idxS,firstI_none (p:=fun x=>decide (s=x)) (xs:=ns) fun j hj=>hin_i j hj (by omega)]
 ·
  simp
 ·
  refine Le.al ?_;simp only [List.forall_mem_cons];exact ⟨rfl,rfl,rfl,rfl,by simp⟩
theorem fn68:FnOk Try.prog 68 18 [4] (bodyOf Try.f68):=⟨Try.f68,Try.func68,by kernel_rfl,by decide,by kernel_rfl,by kernel_rfl⟩
theorem s68 (v:Val) (p:List Str):PSpec Try.prog 68 [.d (encV v),.d (.sl 1 (p.map .str))] (.d (.int .i64 (if v.kind≠7∨mayV v=false then 20 else if pathV p then 0 else 40))):=by
 obtain ⟨kd,it,tx,xs,ns⟩:=v;refine PSpec.of fn68 (by simp) fun o nk=>?_;refine wr ?_;refine u_step (g_box rfl fun o2 hb2 hk2=>?_);refine ua (u_nil (WP.seq fun K3 hK3=>?_));refine WP.block (wr (uf th27 th3 hb2 ?_));refine ul th3 hb2 ?_;refine ub (um ?_);apply gF
 ·rfl
 ·intro hg;exact pg th27 hb2
 apply gF
 ·rfl
 ·intro hg;try simp only [hg,ct,Bt]
  refine o_pcall (s34 (.mk kd it tx xs ns)) rfl ⟨rfl,rfl,rfl⟩
 apply gF
 ·rfl
 ·intro hg;try simp only [hg,ct,Bt]
  exact pN
 refine uO ?_;refine ua ?_;refine u_nil ?_;refine wc (fun hc5=>?_) (fun hc5=>?_) <;> try simp only [Q0,Q1,Q2,Q3,Q4,Q5,Q6,Q7,Q8,ge_iff_le,gt_iff_lt] at hc5
 ·
  refine wr (ua (u_nil (WP.ret ?_)));refine ret_ok rfl ?_ (by omega) (fun t ht=>(hk2 t (by omega)));clear hK3;refine congrArg (D.int .i64) ?_;simp only [Val.kind]
  grind
 ·
  refine wr ?_;refine um ?_;refine u_step (o_pcall (s40 _) rfl ?_);refine uN ?_;refine ua ?_;refine u_nil ?_;refine wc (fun hc8=>?_) (fun hc8=>?_) <;> try simp only [Q0,Q1,Q2,Q3,Q4,Q5,Q6,Q7,Q8,ge_iff_le,gt_iff_lt] at hc8
  ·
   refine wr (ua (u_nil (WP.ret ?_)));refine ret_ok rfl ?_ (by omega) (fun t ht=>(hk2 t (by omega)));clear hK3;refine congrArg (D.int .i64) ?_;simp only [Val.kind]
   grind
  ·
   refine WP.skip (hK3 _ (wr (ua (u_nil (WP.ret ?_)))));refine ret_ok rfl ?_ (by omega) (fun t ht=>(hk2 t (by omega)));clear hK3;refine congrArg (D.int .i64) ?_;simp only [Val.kind]
   grind
def fieldsV (k:Int):Int:=if k=1 then 0 else if k=7 then 3 else if k=2 then 13 else if k=4 then 5 else if k=3 then 21 else if k=5∨k=6 then 1 else -1
theorem retT_ok {ts:List Nat} {sl:Nat→SV} {o o0:Nat→Option AO} {nk nk0:Nat} {xs:List D} (h1:resOf ts ⟨sl,o,nk⟩=.tup (xs.map .d)) (h3:nk0≤nk) (h4:∀ t,t < nk0→o t=o0 t) :
 retQ ts (fun r o' nk'=>r=.tup (xs.map .d)∧nk0≤nk'∧∀ t,t < nk0→o' t=o0 t) .ret ⟨sl,o,nk⟩:=⟨h1,h3,h4⟩
theorem PSpec.of2C {P:Program} {Θ:Tab} (hΘ:TabOk P Θ) {f:FuncId} {n:Nat} {rs:List ResultVar} {c:Code} {args:List SV} {xs:List D} (hf:FnOkC P f n rs c) (hn:args.length≤n)
    (h:∀ o nk,WP P n nk c ⟨slots args,o,nk⟩ (retC Θ rs fun r o' nk'=>r=.tup (xs.map .d)∧nk≤nk'∧∀ t,t < nk→o' t=o t)):PSpec P f args (.tup (xs.map .d)):=fun o nk=>by
  refine Spec.pure (fun m=>?_) ?_ (Spec.of_bodyC hΘ hf hn (h o nk))
  · exact lts_of fun i c hc=>by
      rw [List.getElem?_map] at hc;obtain ⟨d,_,rfl⟩:=Option.map_eq_some_iff.1 hc;trivial
  · show SV.tup (SV.rens id (xs.map .d))=_;rw [SV.rens_id]
theorem retC_ok {Θ:Tab} {a t b:Nat} {sl:Nat→SV} {o o0:Nat→Option AO} {nk nk0:Nat} {x y x' y':D} (h1:ResIs Θ ⟨sl,o,nk⟩ (.cell a t) (.d x')) (h2:sl b=.d y') (hx:x'=x) (hy:y'=y) (h3:nk0≤nk) (h4:∀ t,t < nk0→o t=o0 t) :
    retC Θ [.cell a t,.tmp b] (fun r o' nk'=>r=.tup ([x,y].map .d)∧nk0≤nk'∧∀ t,t < nk0→o' t=o0 t) .ret ⟨sl,o,nk⟩:=
  ⟨[.d x',.d y'],⟨h1,h2.symm,trivial⟩,by rw [hx,hy];rfl,h3,h4⟩
def digN:Str→Nat→Nat
 | [],n=>n
 | c :: s,n=>digN s (10 * n+(c.toNat - 48))
def isDig (c:UInt8):Bool:=decide (48≤c.toNat) && decide (c.toNat≤57)
def stepI (s:Str):Int:=if s.length < 1∨3 < s.length∨(s[0]?=some 48∧1 < s.length) then -1 else if s.all isDig then (digN s 0:Int) else -1
theorem digN_snoc:∀ (s:Str) (c:UInt8) (n:Nat),digN (s++[c]) n=10 * digN s n+(c.toNat - 48)
 | [],c,n=>rfl
 | x :: s,c,n=>by simp only [List.cons_append,digN];exact digN_snoc s c _
theorem digN_lt:∀ (s:Str) (n m:Nat),s.all isDig=true→n < 10 ^ m→digN s n < 10 ^ (m+s.length)
 | [],n,m,_,hn=>hn
 | c :: s,n,m,h,hn=>by
  simp only [List.all_cons,Bool.and_eq_true,isDig,decide_eq_true_eq] at h;have h1:10 * n+(c.toNat - 48) < 10 ^ (m+1):=by rw [Nat.pow_succ];omega
  have:=digN_lt s (10 * n+(c.toNat - 48)) (m+1) (by simpa [isDig] using h.2) h1;simp only [digN,List.length_cons]
  rwa [show m+(s.length+1)=m+1+s.length by omega]
theorem digN_le {s:Str} (h:s.all isDig=true) (hl:s.length≤3):digN s 0 < 1000:=by
 have:=digN_lt s 0 0 h (by simp);have h2:10 ^ (0+s.length)≤10 ^ 3:=Nat.pow_le_pow_right (by omega) (by omega);omega
end Go.Proofs.Ytpkcbdhjnnnkbaa.Abs
