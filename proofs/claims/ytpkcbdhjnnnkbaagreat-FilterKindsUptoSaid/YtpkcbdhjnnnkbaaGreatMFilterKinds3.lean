/- Part 3 of the proof that FilterKinds: called with any kinds and any entry that hold together at most 1048576 values and letters, the law answers true, and both read afterwards as they read before. -/
import Derived.Test.YtpkcbdhjnnnkbaaGreatMFilterKinds2
set_option linter.unusedVariables false
set_option linter.unusedSimpArgs false
set_option maxRecDepth 10000
namespace Go.Proofs.YtpkcbdhjnnnkbaaGreat.Abs
open Go
mutual
/-- Every number of a value is one of 64 bits. -/
def rngV : Val → Prop
  | .mk _ i _ xs _ => (-9223372036854775808 ≤ i ∧ i ≤ 9223372036854775807) ∧ rngVs xs
def rngVs : List Val → Prop
  | [] => True
  | x :: xs => rngV x ∧ rngVs xs
end
theorem rngVs_get : ∀ {xs : List Val} {j : Nat} (_ : rngVs xs) (h : j < xs.length), rngV (xs[j]'h)
  | x :: xs, 0, hr, _ => hr.1
  | x :: xs, j + 1, hr, h => rngVs_get (xs := xs) (j := j) hr.2 (by simpa using h)
def cntN (n : Nat) : Nat := (grp (u64 n)).length
def textN (s : Str) : Nat := (grp (u64 s.length)).length + s.length
def namesN : List Str → Nat
  | [] => 0
  | s :: r => textN s + namesN r
mutual
/-- How many bytes a value's code has. -/
def sizeV : Val → Nat
  | .mk k i t xs ns => if k = 1 then 1 else if k = 2 then 2 else if k = 3 then 1 + (grp (zigN i)).length else if k = 4 ∨ k = 5 then 1 + textN t else 1 + cntN xs.length + sizesV xs + namesN ns
def sizesV : List Val → Nat
  | [] => 0
  | x :: xs => sizeV x + sizesV xs
end
theorem cntN_le (n : Nat) : cntN n ≤ 10 := grp_len 10 _ (by have := u64_lt (n : Int); omega) (by omega)
theorem zig_lt (x : Int) : zigN x < 18446744073709551616 := by unfold zigN; split <;> exact u64_lt _
theorem zig_le (x : Int) : (grp (zigN x)).length ≤ 10 := grp_len 10 _ (Nat.lt_of_lt_of_le (zig_lt x) (by decide)) (by omega)
theorem textN_le (s : Str) : textN s ≤ 10 + s.length := by have := cntN_le s.length; unfold textN cntN at *; omega
theorem namesN_le : ∀ ns, namesN ns ≤ 11 * szN ns
  | [] => by simp [namesN]
  | s :: r => by
    have := namesN_le r
    have := textN_le s
    simp only [namesN, szN]; omega
mutual
theorem sizeV_le : ∀ v, sizeV v ≤ 12 * szV v
  | .mk k i t xs ns => by
    have h1 := sizesV_le xs
    have h2 := namesN_le ns
    have h3 := cntN_le xs.length
    have h4 := zig_le i
    have h5 := textN_le t
    simp only [sizeV, szV]
    split
    · omega
    · split
      · omega
      · split
        · omega
        · split <;> omega
theorem sizesV_le : ∀ xs, sizesV xs ≤ 12 * szVs xs
  | [] => by simp [sizesV]
  | x :: xs => by
    have h1 := sizeV_le x
    have h2 := sizesV_le xs
    simp only [sizesV, szVs]; omega
end
theorem sizesV_snoc : ∀ {xs : List Val} {i : Nat} (h : i < xs.length), sizesV (xs.take (i + 1)) = sizesV (xs.take i) + sizeV (xs[i]'h)
  | x :: xs, 0, _ => by simp [sizesV]
  | x :: xs, i + 1, h => by
    have := sizesV_snoc (xs := xs) (i := i) (by simpa using h)
    simp only [List.take_succ_cons, sizesV, this, List.getElem_cons_succ]; omega
theorem namesN_snoc : ∀ {xs : List Str} {i : Nat} (h : i < xs.length), namesN (xs.take (i + 1)) = namesN (xs.take i) + textN (xs[i]'h)
  | x :: xs, 0, _ => by simp [namesN]
  | x :: xs, i + 1, h => by
    have := namesN_snoc (xs := xs) (i := i) (by simpa using h)
    simp only [List.take_succ_cons, namesN, this, List.getElem_cons_succ]; omega
theorem sizesV_take (xs : List Val) (i : Nat) : sizesV (xs.take i) ≤ sizesV xs := by
  have h : ∀ (ys zs : List Val), sizesV ys ≤ sizesV (ys ++ zs) := fun ys zs => by
    induction ys with
    | nil => simp [sizesV]
    | cons y ys ih => simp only [List.cons_append, sizesV]; omega
  have := h (xs.take i) (xs.drop i)
  rwa [List.take_append_drop] at this
theorem namesN_take (xs : List Str) (i : Nat) : namesN (xs.take i) ≤ namesN xs := by
  have h : ∀ (ys zs : List Str), namesN ys ≤ namesN (ys ++ zs) := fun ys zs => by
    induction ys with
    | nil => simp [namesN]
    | cons y ys ih => simp only [List.cons_append, namesN]; omega
  have := h (xs.take i) (xs.drop i)
  rwa [List.take_append_drop] at this
theorem may_items {k i t xs ns} (h : mayV (.mk k i t xs ns) = true) {j : Nat} (hj : j < xs.length) : mayV (xs[j]'hj) = true := by
  rw [mayV, maysV_all] at h
  simp only [Bool.and_eq_true] at h
  exact List.all_eq_true.1 h.1.1 _ (List.getElem_mem hj)
theorem add_w {a b c : Nat} (h : a + b = c) (hb : c ≤ 9223372036854775807) : SV.d (.int .i64 (IntKind.i64.wrap ((a : Int) + (b : Int)))) = SV.d (.int .i64 (c : Int)) := by
  rw [wrap_i64 (by omega) (by omega), ← h]; simp
theorem add_w1 {b c : Nat} (h : 1 + b = c) (hb : c ≤ 9223372036854775807) : SV.d (.int .i64 (IntKind.i64.wrap (1 + (b : Int)))) = SV.d (.int .i64 (c : Int)) := by
  rw [wrap_i64 (by omega) (by omega), ← h]; simp

theorem fn161 : FnOk Tryz.prog 161 58 [2] (bodyOf Tryz.f161) := ⟨Tryz.f161, Tryz.func161, by kernel_rfl, by decide, by kernel_rfl, by kernel_rfl⟩
theorem s161A (m : Nat) : ∀ v : Val, SizeOf.sizeOf v < m → mayV v = true → rngV v → szV v ≤ 1099511627776 → PSpec Tryz.prog 161 [.d (encV v)] (.d (.int .i64 (sizeV v : Int))) := by
  induction m with
  | zero => intros; omega
  | succ m ih =>
    rintro ⟨kd, it, tx, xs, ns⟩ hv hmy hrg hsz
    have hsz2 : 1 + tx.length + szVs xs + szN ns ≤ 1099511627776 := hsz
    have hxl := szVs_len xs
    have hnl := szN_len ns
    have hs1 := sizesV_le xs
    have hs2 := namesN_le ns
    have hc1 := cntN_le xs.length
    have hz1 := zig_le it
    have ht1 := textN_le tx
    have hln := encVs_length xs
    refine PSpec.of fn161 (by simp) fun o nk => ?_
    refine WP.seq fun K1 hK1 => ?_
    refine WP.reg tabOk rfl ?_
    refine u_step (g_box rfl fun o2 hb2 hk2 => ?_)
    refine u_step (o_assign rfl ?_)
    refine u_nil ?_
    refine hK1 _ ?_
    refine WP.seq fun K3 hK3 => ?_
    refine WP.seq fun K4 hK4 => ?_
    refine WP.reg tabOk rfl ?_
    refine u_step (o_fa_loc rfl th27 rfl rfl th3 (by decide) hb2 ?_)
    refine u_step (o_ld_loc rfl th3 rfl hb2 rfl ?_)
    refine u_nil ?_
    refine hK4 _ ?_
    refine WP.block ?_
    refine WP.seq fun K5 hK5 => ?_
    refine WP.reg tabOk rfl ?_
    refine u_step (o_bin_int rfl rfl (by decide) rfl ?_)
    refine u_step (o_assign rfl ?_)
    refine u_nil ?_
    refine hK5 _ ?_
    refine WP.cond rfl (fun hc6 => ?_) (fun hc6 => ?_)
    ·
      try simp only [Q0, Q1, Q2, Q3, Q4, Q5, Q6, Q7, Q8, ge_iff_le, gt_iff_lt] at hc6
      refine WP.seq fun K7 hK7 => ?_
      refine WP.reg tabOk rfl ?_
      refine u_step (o_assign rfl ?_)
      refine u_nil ?_
      refine hK7 _ ?_
      refine WP.ret ?_
      refine ret_ok rfl ?_ (by omega) (fun t ht => (hk2 t (by omega)))
      -- ret 1
      clear hK1 hK3 hK4 hK5 hK7
      refine congrArg (D.int .i64) ?_
      simp only [beq_iff_eq, beq_eq_false_iff_ne, ne_eq, Bool.or_eq_true, Bool.or_eq_false_iff] at hc6
      have e0 : textN tx = (grp (u64 tx.length)).length + tx.length := rfl
      try rw [wrap_i64 (by first | omega | (rw [bytesD_length]; omega)) (by first | omega | (rw [bytesD_length]; omega))]
      try rw [bytesD_length]
      have h0 : ∀ i, ¬ i < xs.length → xs.take i = xs := fun i h => List.take_of_length_le (by omega)
      have h0n : ∀ i, ¬ i < ns.length → ns.take i = ns := fun i h => List.take_of_length_le (by omega)
      simp only [sizeV]
      grind
    ·
      try simp only [Q0, Q1, Q2, Q3, Q4, Q5, Q6, Q7, Q8, ge_iff_le, gt_iff_lt] at hc6
      refine WP.seq fun K8 hK8 => ?_
      refine WP.reg tabOk rfl ?_
      refine u_step (o_bin_int rfl rfl (by decide) rfl ?_)
      refine u_step (o_assign rfl ?_)
      refine u_nil ?_
      refine hK8 _ ?_
      refine WP.cond rfl (fun hc9 => ?_) (fun hc9 => ?_)
      ·
        try simp only [Q0, Q1, Q2, Q3, Q4, Q5, Q6, Q7, Q8, ge_iff_le, gt_iff_lt] at hc9
        refine WP.seq fun K10 hK10 => ?_
        refine WP.reg tabOk rfl ?_
        refine u_step (o_assign rfl ?_)
        refine u_nil ?_
        refine hK10 _ ?_
        refine WP.ret ?_
        refine ret_ok rfl ?_ (by omega) (fun t ht => (hk2 t (by omega)))
        -- ret 2
        clear hK1 hK3 hK4 hK5 hK8 hK10
        refine congrArg (D.int .i64) ?_
        simp only [beq_iff_eq, beq_eq_false_iff_ne, ne_eq, Bool.or_eq_true, Bool.or_eq_false_iff] at hc6 hc9
        have e0 : textN tx = (grp (u64 tx.length)).length + tx.length := rfl
        try rw [wrap_i64 (by first | omega | (rw [bytesD_length]; omega)) (by first | omega | (rw [bytesD_length]; omega))]
        try rw [bytesD_length]
        have h0 : ∀ i, ¬ i < xs.length → xs.take i = xs := fun i h => List.take_of_length_le (by omega)
        have h0n : ∀ i, ¬ i < ns.length → ns.take i = ns := fun i h => List.take_of_length_le (by omega)
        simp only [sizeV]
        grind
      ·
        try simp only [Q0, Q1, Q2, Q3, Q4, Q5, Q6, Q7, Q8, ge_iff_le, gt_iff_lt] at hc9
        refine WP.seq fun K11 hK11 => ?_
        refine WP.reg tabOk rfl ?_
        refine u_step (o_bin_int rfl rfl (by decide) rfl ?_)
        refine u_step (o_assign rfl ?_)
        refine u_nil ?_
        refine hK11 _ ?_
        refine WP.cond rfl (fun hc12 => ?_) (fun hc12 => ?_)
        ·
          try simp only [Q0, Q1, Q2, Q3, Q4, Q5, Q6, Q7, Q8, ge_iff_le, gt_iff_lt] at hc12
          refine WP.seq fun K13 hK13 => ?_
          refine WP.reg tabOk rfl ?_
          refine u_step (o_fa_loc rfl th27 rfl rfl th3 (by decide) hb2 ?_)
          refine u_step (o_ld_loc rfl th3 rfl hb2 rfl ?_)
          refine u_step (o_rcall (s169 it hrg.1.1 hrg.1.2) rfl fun q14 o14 nk14 hqa14 hqb14 hb14 hk14 => ?_)
          have hb2_14 := (hk14 _ (by omega)).trans hb2
          refine u_step (o_len_row rfl th52 rfl hb14 ?_)
          refine u_step (o_bin_int rfl rfl (by decide) rfl ?_)
          refine u_step (o_assign rfl ?_)
          refine u_nil ?_
          refine hK13 _ ?_
          refine WP.ret ?_
          refine ret_ok rfl ?_ (by omega) (fun t ht => (hk14 t (by omega)).trans ((hk2 t (by omega))))
          -- ret 3
          clear hK1 hK3 hK4 hK5 hK8 hK11 hK13
          refine congrArg (D.int .i64) ?_
          simp only [beq_iff_eq, beq_eq_false_iff_ne, ne_eq, Bool.or_eq_true, Bool.or_eq_false_iff] at hc6 hc9 hc12
          have e0 : textN tx = (grp (u64 tx.length)).length + tx.length := rfl
          try rw [wrap_i64 (by first | omega | (rw [bytesD_length]; omega)) (by first | omega | (rw [bytesD_length]; omega))]
          try rw [bytesD_length]
          have h0 : ∀ i, ¬ i < xs.length → xs.take i = xs := fun i h => List.take_of_length_le (by omega)
          have h0n : ∀ i, ¬ i < ns.length → ns.take i = ns := fun i h => List.take_of_length_le (by omega)
          simp only [sizeV]
          grind
        ·
          try simp only [Q0, Q1, Q2, Q3, Q4, Q5, Q6, Q7, Q8, ge_iff_le, gt_iff_lt] at hc12
          refine WP.seqJ ⟨al [(1, .loc nk 0), (9, .d (.int .i64 kd)), (21, .d (.bool (kd == 4 || kd == 5)))], o2, (nk + 1)⟩ ?_ ?_
          ·
            refine WP.seq fun K15 hK15 => ?_
            refine WP.reg tabOk rfl ?_
            refine u_step (o_bin_int rfl rfl (by decide) rfl ?_)
            refine u_step (o_assign rfl ?_)
            refine u_nil ?_
            refine hK15 _ ?_
            refine WP.cond rfl (fun hc16 => ?_) (fun hc16 => ?_)
            ·
              try simp only [Q0, Q1, Q2, Q3, Q4, Q5, Q6, Q7, Q8, ge_iff_le, gt_iff_lt] at hc16
              refine WP.skip ?_
              refine Le.al ?_
              simp only [List.forall_mem_cons]
              refine ⟨rfl, rfl, ?_, by simp⟩
              first | (show SV.d (.bool (kd == (4 : Int))) = _; simp only [hc16, Bool.true_or]) | (show SV.d (.bool (kd == (5 : Int))) = _; simp only [hc16, Bool.false_or])
            ·
              try simp only [Q0, Q1, Q2, Q3, Q4, Q5, Q6, Q7, Q8, ge_iff_le, gt_iff_lt] at hc16
              refine WP.reg tabOk rfl ?_
              refine u_step (o_bin_int rfl rfl (by decide) rfl ?_)
              refine u_step (o_assign rfl ?_)
              refine u_nil ?_
              refine Le.al ?_
              simp only [List.forall_mem_cons]
              refine ⟨rfl, rfl, ?_, by simp⟩
              first | (show SV.d (.bool (kd == (4 : Int))) = _; simp only [hc16, Bool.true_or]) | (show SV.d (.bool (kd == (5 : Int))) = _; simp only [hc16, Bool.false_or])
          ·
            refine WP.cond rfl (fun hc17 => ?_) (fun hc17 => ?_)
            ·
              try simp only [Q0, Q1, Q2, Q3, Q4, Q5, Q6, Q7, Q8, ge_iff_le, gt_iff_lt] at hc17
              refine WP.seq fun K18 hK18 => ?_
              refine WP.reg tabOk rfl ?_
              refine u_step (o_fa_loc rfl th27 rfl rfl th9 (by decide) hb2 ?_)
              refine u_step (o_ld_loc rfl th9 rfl hb2 rfl ?_)
              refine u_step (o_pcall (s186 tx (by omega)) rfl ?_)
              refine u_step (o_bin_int rfl rfl (by decide) rfl ?_)
              refine u_step (o_assign rfl ?_)
              refine u_nil ?_
              refine hK18 _ ?_
              refine WP.ret ?_
              refine ret_ok rfl ?_ (by omega) (fun t ht => (hk2 t (by omega)))
              -- ret 4
              clear hK1 hK3 hK4 hK5 hK8 hK11 hK18
              refine congrArg (D.int .i64) ?_
              simp only [beq_iff_eq, beq_eq_false_iff_ne, ne_eq, Bool.or_eq_true, Bool.or_eq_false_iff] at hc6 hc9 hc12 hc17
              have e0 : textN tx = (grp (u64 tx.length)).length + tx.length := rfl
              try rw [wrap_i64 (by first | omega | (rw [bytesD_length]; omega)) (by first | omega | (rw [bytesD_length]; omega))]
              try rw [bytesD_length]
              have h0 : ∀ i, ¬ i < xs.length → xs.take i = xs := fun i h => List.take_of_length_le (by omega)
              have h0n : ∀ i, ¬ i < ns.length → ns.take i = ns := fun i h => List.take_of_length_le (by omega)
              simp only [sizeV]
              grind
            ·
              try simp only [Q0, Q1, Q2, Q3, Q4, Q5, Q6, Q7, Q8, ge_iff_le, gt_iff_lt] at hc17
              refine WP.skip ?_
              refine hK3 _ ?_
              refine WP.seq fun K19 hK19 => ?_
              refine WP.reg tabOk rfl ?_
              refine u_step (o_fa_loc rfl th27 rfl rfl th25 (by decide) hb2 ?_)
              refine u_step (o_ld_loc rfl th25 rfl hb2 rfl ?_)
              refine u_step (o_len_sl rfl th25 rfl ?_)
              refine u_step (o_pcall (s187 (encVs xs).length (by omega) (by omega)) rfl ?_)
              refine u_step (o_bin_int rfl rfl (by decide) rfl ?_)
              refine u_step (o_assign rfl ?_)
              refine u_nil ?_
              refine hK19 _ ?_
              refine WP.seq fun K20 hK20 => ?_
              refine WP.seq fun K21 hK21 => ?_
              refine WP.reg tabOk rfl ?_
              refine u_step (o_fa_loc rfl th27 rfl rfl th25 (by decide) hb2 ?_)
              refine u_step (o_ld_loc rfl th25 rfl hb2 rfl ?_)
              refine u_step (o_len_sl rfl th25 rfl ?_)
              refine u_step (o_move rfl ?_)
              refine u_nil ?_
              refine hK21 _ ?_
              refine WP.block ?_
              refine WP.loopL (ι := Nat × (Nat → Option AO) × Nat) (fun ⟨i, o2, nk2⟩ => ⟨al [(1, .loc nk 0), (3, .d (.int .i64 (1 + cntN xs.length + sizesV (xs.take i) : Nat))), (34, .d (.sl 5 (encVs xs))), (35, .d (.int .i64 (encVs xs).length)), (36, .d (.int .i64 i))], o2, nk2⟩) (fun ⟨i, o2, nk2⟩ => i ≤ xs.length ∧ nk < nk2 ∧ o2 nk = some (.box (([.int .i64 kd, .int .i64 it, .str tx, .sl 5 (encVs xs), .sl 1 (ns.map .str)] : List D).map .d)) ∧ (∀ t, t < nk → o2 t = o t)) (fun ⟨i, o2, nk2⟩ => xs.length - i) (fun ⟨i, o2, nk2⟩ hA => ?_) ⟨0, o2, (nk + 1)⟩ ?_ ?_
              ·
                obtain ⟨hle, hnk, hob, hfr⟩ := hA
                refine WP.seq fun K22 hK22 => ?_
                refine WP.reg tabOk rfl ?_
                refine u_step (o_bin_int rfl rfl (by decide) rfl ?_)
                refine u_nil ?_
                refine hK22 _ ?_
                refine WP.seq fun K23 hK23 => ?_
                refine WP.cond rfl (fun hc24 => ?_) (fun hc24 => ?_)
                ·
                  try simp only [Q0, Q1, Q2, Q3, Q4, Q5, Q6, Q7, Q8, ge_iff_le, gt_iff_lt] at hc24
                  refine WP.skip ?_
                  refine hK23 _ ?_
                  refine WP.seq fun K25 hK25 => ?_
                  refine WP.block ?_
                  refine WP.seq fun K26 hK26 => ?_
                  refine WP.reg tabOk rfl ?_
                  first | refine u_step (o_ia_map rfl rfl th25 rfl th27 rfl (by omega) ?_) | refine u_step (o_ia_vs rfl rfl th25 rfl th27 rfl (by omega) ?_)
                  refine u_step (o_ld_el rfl th27 (by first | rfl | simp only [encV_leaf, encV_width, Bool.not_true, TK.agg]) (by first | rfl | simp only [encV_leaf, encV_width, Bool.not_true, TK.agg]) ?_)
                  refine u_step (g_alloc th27 rfl fun o27 hb27 hk27 => ?_)
                  have hob_27 := (hk27 _ (by omega)).trans hob
                  refine u_step0 (g_sta rfl (congrArg SV.d (encV_eq _)) th27 rfl hb27 (by simp [valCells]) fun o28 hb28 hk28 => ?_)
                  have hob_28 := (hk28 _ (by omega)).trans hob_27
                  refine u_nil ?_
                  refine hK26 _ ?_
                  refine WP.reg tabOk rfl ?_
                  refine u_step (o_move rfl ?_)
                  refine u_step (o_ld_agg rfl th27 rfl hb28 rfl rfl rfl ?_)
                  refine u_step (o_pcall (pv (v := xs[i]) (ih _ (by exact items_lt' (by omega) hv) (may_items hmy (by omega)) (rngVs_get hrg.2 (by omega)) (by have := szVs_get (xs := xs) (j := i) (by omega); omega))) rfl ?_)
                  refine u_step (o_bin_int rfl rfl (by decide) rfl ?_)
                  refine u_step (o_assign rfl ?_)
                  refine u_nil ?_
                  refine hK25 _ ?_
                  refine WP.reg tabOk rfl ?_
                  refine u_step (o_bin_int rfl rfl (by decide) rfl ?_)
                  refine u_step (o_move rfl ?_)
                  refine u_nil ?_
                  -- back
                  have hsn := sizesV_snoc (xs := xs) (i := i) (by omega)
                  have hst := sizesV_take xs (i + 1)
                  refine ⟨⟨i + 1, o28, (nk2 + 1)⟩, ⟨by omega, by omega, hob_28, (fun t ht => (hk28 t (by omega)).trans ((hk27 t (by omega)).trans ((hfr t (by omega)))))⟩, by simp only; omega, ?_⟩
                  refine Le.al ?_
                  simp only [List.forall_mem_cons]
                  exact ⟨rfl, add_w (by omega) (by omega), rfl, rfl, cnt (by omega), by simp⟩
                ·
                  try simp only [Q0, Q1, Q2, Q3, Q4, Q5, Q6, Q7, Q8, ge_iff_le, gt_iff_lt] at hc24
                  refine WP.exit ?_
                  refine hK20 _ ?_
                  refine WP.seq fun K29 hK29 => ?_
                  refine WP.seq fun K30 hK30 => ?_
                  refine WP.reg tabOk rfl ?_
                  refine u_step (o_fa_loc rfl th27 rfl rfl th22 (by decide) hob ?_)
                  refine u_step (o_ld_loc rfl th22 rfl hob rfl ?_)
                  refine u_step (o_len_sl rfl th22 rfl ?_)
                  refine u_step (o_move rfl ?_)
                  refine u_nil ?_
                  refine hK30 _ ?_
                  refine WP.block ?_
                  refine WP.loopL (ι := Nat) (fun j => ⟨al [(3, .d (.int .i64 (1 + cntN xs.length + sizesV xs + namesN (ns.take j) : Nat))), (46, .d (.sl 1 (ns.map .str))), (47, .d (.int .i64 (ns.map D.str).length)), (48, .d (.int .i64 j))], o2, nk2⟩) (fun j => j ≤ ns.length) (fun j => ns.length - j) (fun j hA => ?_) 0 ?_ ?_
                  ·
                    refine WP.seq fun K31 hK31 => ?_
                    refine WP.reg tabOk rfl ?_
                    refine u_step (o_bin_int rfl rfl (by decide) rfl ?_)
                    refine u_nil ?_
                    refine hK31 _ ?_
                    refine WP.seq fun K32 hK32 => ?_
                    refine WP.cond rfl (fun hc33 => ?_) (fun hc33 => ?_)
                    ·
                      try simp only [Q0, Q1, Q2, Q3, Q4, Q5, Q6, Q7, Q8, ge_iff_le, gt_iff_lt] at hc33
                      refine WP.skip ?_
                      refine hK32 _ ?_
                      refine WP.seq fun K34 hK34 => ?_
                      refine WP.block ?_
                      refine WP.seq fun K35 hK35 => ?_
                      refine WP.reg tabOk rfl ?_
                      first | refine u_step (o_ia_map rfl rfl th22 rfl th9 rfl (by omega) ?_) | refine u_step (o_ia_vs rfl rfl th22 rfl th9 rfl (by omega) ?_)
                      refine u_step (o_ld_el rfl th9 (by first | rfl | simp only [encV_leaf, encV_width, Bool.not_true, TK.agg]) (by first | rfl | simp only [encV_leaf, encV_width, Bool.not_true, TK.agg]) ?_)
                      refine u_step (o_assign rfl ?_)
                      refine u_nil ?_
                      refine hK35 _ ?_
                      refine WP.reg tabOk rfl ?_
                      refine u_step (o_move rfl ?_)
                      refine u_step (o_move rfl ?_)
                      refine u_step (o_pcall (s186 ns[j] (by have := szN_get (xs := ns) (j := j) (by omega); omega)) rfl ?_)
                      refine u_step (o_bin_int rfl rfl (by decide) rfl ?_)
                      refine u_step (o_assign rfl ?_)
                      refine u_nil ?_
                      refine hK34 _ ?_
                      refine WP.reg tabOk rfl ?_
                      refine u_step (o_bin_int rfl rfl (by decide) rfl ?_)
                      refine u_step (o_move rfl ?_)
                      refine u_nil ?_
                      -- back
                      have hsn := namesN_snoc (xs := ns) (i := j) (by omega)
                      have hst := namesN_take ns (j + 1)
                      refine ⟨j + 1, by omega, by omega, ?_⟩
                      refine Le.al ?_
                      simp only [List.forall_mem_cons]
                      exact ⟨add_w (by simp only [textN] at *; omega) (by omega), rfl, rfl, cnt (by omega), by simp⟩
                    ·
                      try simp only [Q0, Q1, Q2, Q3, Q4, Q5, Q6, Q7, Q8, ge_iff_le, gt_iff_lt] at hc33
                      refine WP.exit ?_
                      refine hK29 _ ?_
                      refine WP.seq fun K36 hK36 => ?_
                      refine WP.reg tabOk rfl ?_
                      refine u_step (o_move rfl ?_)
                      refine u_step (o_assign rfl ?_)
                      refine u_nil ?_
                      refine hK36 _ ?_
                      refine WP.ret ?_
                      refine ret_ok rfl ?_ (by omega) (fun t ht => (hfr t (by omega)))
                      -- ret 5
                      clear hK1 hK3 hK4 hK5 hK8 hK11 hK19 hK20 hK21 hK22 hK23 hK29 hK30 hK31 hK32 hK36
                      refine congrArg (D.int .i64) ?_
                      simp only [beq_iff_eq, beq_eq_false_iff_ne, ne_eq, Bool.or_eq_true, Bool.or_eq_false_iff] at hc6 hc9 hc12 hc17 hc24 hc33
                      have e0 : textN tx = (grp (u64 tx.length)).length + tx.length := rfl
                      try rw [wrap_i64 (by first | omega | (rw [bytesD_length]; omega)) (by first | omega | (rw [bytesD_length]; omega))]
                      try rw [bytesD_length]
                      have h0 : ∀ i, ¬ i < xs.length → xs.take i = xs := fun i h => List.take_of_length_le (by omega)
                      have h0n : ∀ i, ¬ i < ns.length → ns.take i = ns := fun i h => List.take_of_length_le (by omega)
                      simp only [sizeV]
                      grind
                  ·
                    omega
                  ·
                    refine Le.al ?_
                    simp only [List.forall_mem_cons]
                    have h0 : xs.take i = xs := List.take_of_length_le (by omega)
                    exact ⟨(by rw [h0, List.take_zero]; simp [namesN]; rfl), rfl, rfl, rfl, by simp⟩
              ·
                refine ⟨by simp, by omega, hb2, (fun t ht => (hk2 t (by omega)))⟩
              ·
                refine Le.al ?_
                simp only [List.forall_mem_cons]
                refine ⟨rfl, ?_, rfl, rfl, rfl, by simp⟩
                exact add_w1 (by simp only [cntN, List.take_zero, sizesV, hln]; omega) (by simp only [List.take_zero, sizesV]; omega)
theorem s161 (v : Val) (hmy : mayV v = true) (hrg : rngV v) (hsz : szV v ≤ 1099511627776) : PSpec Tryz.prog 161 [.d (encV v)] (.d (.int .i64 (sizeV v : Int))) := s161A _ v (Nat.lt_succ_self _) hmy hrg hsz

end Go.Proofs.YtpkcbdhjnnnkbaaGreat.Abs

set_option linter.unusedVariables false
set_option linter.unusedSimpArgs false
set_option maxRecDepth 10000
namespace Go.Proofs.YtpkcbdhjnnnkbaaGreat.Abs
open Go
theorem may7 {i t xs ns} (h : mayV (.mk 7 i t xs ns) = true) : ns.length = xs.length := by
  simp [mayV, kindOk] at h; omega
theorem add_w2 {a b c d : Nat} (h : a + b + c = d) (hb : d ≤ 9223372036854775807) : SV.d (.int .i64 (IntKind.i64.wrap (IntKind.i64.wrap ((a : Int) + (b : Int)) + (c : Int)))) = SV.d (.int .i64 (d : Int)) := by
  rw [wrap_i64 (m := (a : Int) + (b : Int)) (by omega) (by omega), wrap_i64 (by omega) (by omega), ← h]; simp
def accS (k : Int) (xs : List Val) (ns : List Str) (i : Nat) : Nat := (if k = 6 ∨ k = 7 then 1 + cntN xs.length else 1) + sizesV (xs.take i) + (if k = 7 then namesN (ns.take i) else 0)
theorem accS_a {k : Int} {xs : List Val} {ns : List Str} {i : Nat} (h : i < xs.length) (h7 : ¬ k = 7) : accS k xs ns i + sizeV (xs[i]'h) = accS k xs ns (i + 1) := by
  simp only [accS, if_neg h7, sizesV_snoc h]; omega
theorem accS_b {k : Int} {xs : List Val} {ns : List Str} {i : Nat} (h : i < xs.length) (hn : i < ns.length) (h7 : k = 7) : accS k xs ns i + sizeV (xs[i]'h) + textN (ns[i]'hn) = accS k xs ns (i + 1) := by
  simp only [accS, if_pos h7, sizesV_snoc h, namesN_snoc hn]; omega
theorem accS_le (k : Int) (xs : List Val) (ns : List Str) (i : Nat) : accS k xs ns i ≤ 11 + 12 * szVs xs + 11 * szN ns := by
  have h1 := sizesV_le xs
  have h2 := namesN_le ns
  have h3 := cntN_le xs.length
  have h4 := sizesV_take xs i
  have h5 := namesN_take ns i
  unfold accS
  split <;> split <;> omega
theorem accS_end {k i : Int} {t : Str} {xs : List Val} {ns : List Str} (hm : mayV (.mk k i t xs ns) = true) (h2 : ¬ k = 2) (h3 : ¬ k = 3) (h4 : ¬ (k = 4 ∨ k = 5)) : accS k xs ns xs.length = sizeV (.mk k i t xs ns) := by
  have hx : xs.take xs.length = xs := List.take_length
  simp only [accS, sizeV, hx]
  have hk : k = 1 ∨ k = 6 ∨ k = 7 := by
    simp only [mayV, kindOk, Bool.and_eq_true] at hm
    have := hm.2
    by_cases k = 1 <;> by_cases k = 6 <;> by_cases k = 7 <;> simp_all
  rcases hk with rfl | rfl | rfl
  · have : xs = [] := by simp [mayV, kindOk] at hm; exact hm.2.1.2
    subst this
    simp [sizesV]
  · have : ns = [] := by simp [mayV, kindOk] at hm; exact hm.2.2
    subst this
    simp [namesN]
  · have hl := may7 hm
    have : ns.take xs.length = ns := by rw [← hl]; exact List.take_length
    simp [this]

theorem fn117 : FnOk Tryz.prog 117 62 [2] (bodyOf Tryz.f117) := ⟨Tryz.f117, Tryz.func117, by kernel_rfl, by decide, by kernel_rfl, by kernel_rfl⟩
theorem s117A (m : Nat) : ∀ v : Val, SizeOf.sizeOf v < m → mayV v = true → rngV v → szV v ≤ 1099511627776 → PSpec Tryz.prog 117 [.d (encV v)] (.d (.int .i64 (sizeV v : Int))) := by
  induction m with
  | zero => intros; omega
  | succ m ih =>
    rintro ⟨kd, it, tx, xs, ns⟩ hv hmy hrg hsz
    have hsz2 : 1 + tx.length + szVs xs + szN ns ≤ 1099511627776 := hsz
    have hxl := szVs_len xs
    have hnl := szN_len ns
    have hs1 := sizesV_le xs
    have hs2 := namesN_le ns
    have hc1 := cntN_le xs.length
    have hz1 := zig_le it
    have ht1 := textN_le tx
    have hln := encVs_length xs
    refine PSpec.of fn117 (by simp) fun o nk => ?_
    refine WP.seq fun K1 hK1 => ?_
    refine WP.reg tabOk rfl ?_
    refine u_step (g_box rfl fun o2 hb2 hk2 => ?_)
    refine u_step (o_assign rfl ?_)
    refine u_nil ?_
    refine hK1 _ ?_
    refine WP.seq fun K3 hK3 => ?_
    refine WP.reg tabOk rfl ?_
    refine u_step (o_assign rfl ?_)
    refine u_nil ?_
    refine hK3 _ ?_
    refine WP.seq fun K4 hK4 => ?_
    refine WP.seq fun K5 hK5 => ?_
    refine WP.reg tabOk rfl ?_
    refine u_step (o_fa_loc rfl th27 rfl rfl th3 (by decide) hb2 ?_)
    refine u_step (o_ld_loc rfl th3 rfl hb2 rfl ?_)
    refine u_nil ?_
    refine hK5 _ ?_
    refine WP.block ?_
    refine WP.seq fun K6 hK6 => ?_
    refine WP.reg tabOk rfl ?_
    refine u_step (o_bin_int rfl rfl (by decide) rfl ?_)
    refine u_step (o_assign rfl ?_)
    refine u_nil ?_
    refine hK6 _ ?_
    refine WP.cond rfl (fun hc7 => ?_) (fun hc7 => ?_)
    ·
      try simp only [Q0, Q1, Q2, Q3, Q4, Q5, Q6, Q7, Q8, ge_iff_le, gt_iff_lt] at hc7
      refine WP.seq fun K8 hK8 => ?_
      refine WP.reg tabOk rfl ?_
      refine u_step (o_assign rfl ?_)
      refine u_nil ?_
      refine hK8 _ ?_
      refine WP.ret ?_
      refine ret_ok rfl ?_ (by omega) (fun t ht => (hk2 t (by omega)))
      -- ret 1
      clear hK1 hK3 hK4 hK5 hK6 hK8
      refine congrArg (D.int .i64) ?_
      simp only [beq_iff_eq, beq_eq_false_iff_ne, ne_eq, Bool.or_eq_true, Bool.or_eq_false_iff] at hc7
      have e0 : textN tx = (grp (u64 tx.length)).length + tx.length := rfl
      try simp only [bytesD_length, List.length_append]
      try rw [wrap_i64 (by omega) (by omega)]
      try rw [bytesD_length]
      have h0 : ∀ i, ¬ i < xs.length → xs.take i = xs := fun i h => List.take_of_length_le (by omega)
      have h0n : ∀ i, ¬ i < ns.length → ns.take i = ns := fun i h => List.take_of_length_le (by omega)
      simp only [sizeV]
      grind
    ·
      try simp only [Q0, Q1, Q2, Q3, Q4, Q5, Q6, Q7, Q8, ge_iff_le, gt_iff_lt] at hc7
      refine WP.seq fun K9 hK9 => ?_
      refine WP.reg tabOk rfl ?_
      refine u_step (o_bin_int rfl rfl (by decide) rfl ?_)
      refine u_step (o_assign rfl ?_)
      refine u_nil ?_
      refine hK9 _ ?_
      refine WP.cond rfl (fun hc10 => ?_) (fun hc10 => ?_)
      ·
        try simp only [Q0, Q1, Q2, Q3, Q4, Q5, Q6, Q7, Q8, ge_iff_le, gt_iff_lt] at hc10
        refine WP.seq fun K11 hK11 => ?_
        refine WP.reg tabOk rfl ?_
        refine u_step (o_fa_loc rfl th27 rfl rfl th3 (by decide) hb2 ?_)
        refine u_step (o_ld_loc rfl th3 rfl hb2 rfl ?_)
        refine u_step (o_rcall (s141 it hrg.1.1 hrg.1.2) rfl fun q12 o12 nk12 hqa12 hqb12 hb12 hk12 => ?_)
        have hb2_12 := (hk12 _ (by omega)).trans hb2
        refine u_step (o_len_row rfl th52 rfl hb12 ?_)
        refine u_step (o_bin_int rfl rfl (by decide) rfl ?_)
        refine u_step (o_assign rfl ?_)
        refine u_nil ?_
        refine hK11 _ ?_
        refine WP.ret ?_
        refine ret_ok rfl ?_ (by omega) (fun t ht => (hk12 t (by omega)).trans ((hk2 t (by omega))))
        -- ret 2
        clear hK1 hK3 hK4 hK5 hK6 hK9 hK11
        refine congrArg (D.int .i64) ?_
        simp only [beq_iff_eq, beq_eq_false_iff_ne, ne_eq, Bool.or_eq_true, Bool.or_eq_false_iff] at hc7 hc10
        have e0 : textN tx = (grp (u64 tx.length)).length + tx.length := rfl
        try simp only [bytesD_length, List.length_append]
        try rw [wrap_i64 (by omega) (by omega)]
        try rw [bytesD_length]
        have h0 : ∀ i, ¬ i < xs.length → xs.take i = xs := fun i h => List.take_of_length_le (by omega)
        have h0n : ∀ i, ¬ i < ns.length → ns.take i = ns := fun i h => List.take_of_length_le (by omega)
        simp only [sizeV]
        grind
      ·
        try simp only [Q0, Q1, Q2, Q3, Q4, Q5, Q6, Q7, Q8, ge_iff_le, gt_iff_lt] at hc10
        refine WP.seqJ ⟨al [(1, .loc nk 0), (3, .d (.int .i64 1)), (6, .d (.int .i64 kd)), (16, .d (.bool (kd == 4 || kd == 5)))], o2, (nk + 1)⟩ ?_ ?_
        ·
          refine WP.seq fun K13 hK13 => ?_
          refine WP.reg tabOk rfl ?_
          refine u_step (o_bin_int rfl rfl (by decide) rfl ?_)
          refine u_step (o_assign rfl ?_)
          refine u_nil ?_
          refine hK13 _ ?_
          refine WP.cond rfl (fun hc14 => ?_) (fun hc14 => ?_)
          ·
            try simp only [Q0, Q1, Q2, Q3, Q4, Q5, Q6, Q7, Q8, ge_iff_le, gt_iff_lt] at hc14
            refine WP.skip ?_
            refine Le.al ?_
            simp only [List.forall_mem_cons]
            refine ⟨rfl, rfl, rfl, ?_, by simp⟩
            first | (show SV.d (.bool (kd == (4 : Int))) = _; simp only [hc14, Bool.true_or]) | (show SV.d (.bool (kd == (5 : Int))) = _; simp only [hc14, Bool.false_or])
          ·
            try simp only [Q0, Q1, Q2, Q3, Q4, Q5, Q6, Q7, Q8, ge_iff_le, gt_iff_lt] at hc14
            refine WP.reg tabOk rfl ?_
            refine u_step (o_bin_int rfl rfl (by decide) rfl ?_)
            refine u_step (o_assign rfl ?_)
            refine u_nil ?_
            refine Le.al ?_
            simp only [List.forall_mem_cons]
            refine ⟨rfl, rfl, rfl, ?_, by simp⟩
            first | (show SV.d (.bool (kd == (4 : Int))) = _; simp only [hc14, Bool.true_or]) | (show SV.d (.bool (kd == (5 : Int))) = _; simp only [hc14, Bool.false_or])
        ·
          refine WP.cond rfl (fun hc15 => ?_) (fun hc15 => ?_)
          ·
            try simp only [Q0, Q1, Q2, Q3, Q4, Q5, Q6, Q7, Q8, ge_iff_le, gt_iff_lt] at hc15
            refine WP.seq fun K16 hK16 => ?_
            refine WP.reg tabOk rfl ?_
            refine u_step (o_fa_loc rfl th27 rfl rfl th9 (by decide) hb2 ?_)
            refine u_step (o_ld_loc rfl th9 rfl hb2 rfl ?_)
            refine u_step (o_rcall (s89 tx (by omega)) rfl fun q17 o17 nk17 hqa17 hqb17 hb17 hk17 => ?_)
            have hb2_17 := (hk17 _ (by omega)).trans hb2
            refine u_step (o_len_row rfl th52 rfl hb17 ?_)
            refine u_step (o_bin_int rfl rfl (by decide) rfl ?_)
            refine u_step (o_assign rfl ?_)
            refine u_nil ?_
            refine hK16 _ ?_
            refine WP.ret ?_
            refine ret_ok rfl ?_ (by omega) (fun t ht => (hk17 t (by omega)).trans ((hk2 t (by omega))))
            -- ret 3
            clear hK1 hK3 hK4 hK5 hK6 hK9 hK16
            refine congrArg (D.int .i64) ?_
            simp only [beq_iff_eq, beq_eq_false_iff_ne, ne_eq, Bool.or_eq_true, Bool.or_eq_false_iff] at hc7 hc10 hc15
            have e0 : textN tx = (grp (u64 tx.length)).length + tx.length := rfl
            try simp only [bytesD_length, List.length_append]
            try rw [wrap_i64 (by omega) (by omega)]
            try rw [bytesD_length]
            have h0 : ∀ i, ¬ i < xs.length → xs.take i = xs := fun i h => List.take_of_length_le (by omega)
            have h0n : ∀ i, ¬ i < ns.length → ns.take i = ns := fun i h => List.take_of_length_le (by omega)
            simp only [sizeV]
            grind
          ·
            try simp only [Q0, Q1, Q2, Q3, Q4, Q5, Q6, Q7, Q8, ge_iff_le, gt_iff_lt] at hc15
            refine WP.seqJ ⟨al [(1, .loc nk 0), (3, .d (.int .i64 1)), (6, .d (.int .i64 kd)), (24, .d (.bool (kd == 6 || kd == 7)))], o2, (nk + 1)⟩ ?_ ?_
            ·
              refine WP.seq fun K18 hK18 => ?_
              refine WP.reg tabOk rfl ?_
              refine u_step (o_bin_int rfl rfl (by decide) rfl ?_)
              refine u_step (o_assign rfl ?_)
              refine u_nil ?_
              refine hK18 _ ?_
              refine WP.cond rfl (fun hc19 => ?_) (fun hc19 => ?_)
              ·
                try simp only [Q0, Q1, Q2, Q3, Q4, Q5, Q6, Q7, Q8, ge_iff_le, gt_iff_lt] at hc19
                refine WP.skip ?_
                refine Le.al ?_
                simp only [List.forall_mem_cons]
                refine ⟨rfl, rfl, rfl, ?_, by simp⟩
                first | (show SV.d (.bool (kd == (6 : Int))) = _; simp only [hc19, Bool.true_or]) | (show SV.d (.bool (kd == (7 : Int))) = _; simp only [hc19, Bool.false_or])
              ·
                try simp only [Q0, Q1, Q2, Q3, Q4, Q5, Q6, Q7, Q8, ge_iff_le, gt_iff_lt] at hc19
                refine WP.reg tabOk rfl ?_
                refine u_step (o_bin_int rfl rfl (by decide) rfl ?_)
                refine u_step (o_assign rfl ?_)
                refine u_nil ?_
                refine Le.al ?_
                simp only [List.forall_mem_cons]
                refine ⟨rfl, rfl, rfl, ?_, by simp⟩
                first | (show SV.d (.bool (kd == (6 : Int))) = _; simp only [hc19, Bool.true_or]) | (show SV.d (.bool (kd == (7 : Int))) = _; simp only [hc19, Bool.false_or])
            ·
              refine WP.cond rfl (fun hc20 => ?_) (fun hc20 => ?_)
              ·
                try simp only [Q0, Q1, Q2, Q3, Q4, Q5, Q6, Q7, Q8, ge_iff_le, gt_iff_lt] at hc20
                refine WP.reg tabOk rfl ?_
                refine u_step (o_move rfl ?_)
                refine u_step (o_fa_loc rfl th27 rfl rfl th25 (by decide) hb2 ?_)
                refine u_step (o_ld_loc rfl th25 rfl hb2 rfl ?_)
                refine u_step (o_len_sl rfl th25 rfl ?_)
                refine u_step (o_rcall (s88 _) rfl fun q21 o21 nk21 hqa21 hqb21 hb21 hk21 => ?_)
                have hb2_21 := (hk21 _ (by omega)).trans hb2
                refine u_step (o_len_row rfl th52 rfl hb21 ?_)
                refine u_step (o_bin_int rfl rfl (by decide) rfl ?_)
                refine u_step (o_assign rfl ?_)
                refine u_nil ?_
                refine hK4 _ ?_
                refine WP.seq fun K22 hK22 => ?_
                refine WP.seq fun K23 hK23 => ?_
                refine WP.reg tabOk rfl ?_
                refine u_step (o_assign rfl ?_)
                refine u_nil ?_
                refine hK23 _ ?_
                refine WP.block ?_
                refine WP.loopL (ι := Nat × (Nat → Option AO) × Nat) (fun ⟨i, o2, nk2⟩ => ⟨al [(1, .loc nk 0), (3, .d (.int .i64 (accS kd xs ns i : Nat))), (4, .d (.int .i64 i))], o2, nk2⟩) (fun ⟨i, o2, nk2⟩ => i ≤ xs.length ∧ nk < nk2 ∧ o2 nk = some (.box (([.int .i64 kd, .int .i64 it, .str tx, .sl 5 (encVs xs), .sl 1 (ns.map .str)] : List D).map .d)) ∧ (∀ t, t < nk → o2 t = o t)) (fun ⟨i, o2, nk2⟩ => xs.length - i) (fun ⟨i, o2, nk2⟩ hA => ?_) ⟨0, o21, nk21⟩ ?_ ?_
                ·
                  obtain ⟨hle, hnk, hob, hfr⟩ := hA
                  refine WP.seq fun K24 hK24 => ?_
                  refine WP.seq fun K25 hK25 => ?_
                  refine WP.reg tabOk rfl ?_
                  refine u_step (o_move rfl ?_)
                  refine u_step (o_fa_loc rfl th27 rfl rfl th25 (by decide) hob ?_)
                  refine u_step (o_ld_loc rfl th25 rfl hob rfl ?_)
                  refine u_step (o_len_sl rfl th25 rfl ?_)
                  refine u_step (o_bin_int rfl rfl (by decide) rfl ?_)
                  refine u_nil ?_
                  refine hK25 _ ?_
                  refine WP.cond rfl (fun hc26 => ?_) (fun hc26 => ?_)
                  ·
                    try simp only [Q0, Q1, Q2, Q3, Q4, Q5, Q6, Q7, Q8, ge_iff_le, gt_iff_lt] at hc26
                    refine WP.skip ?_
                    refine hK24 _ ?_
                    refine WP.seq fun K27 hK27 => ?_
                    refine WP.block ?_
                    refine WP.seq fun K28 hK28 => ?_
                    refine WP.reg tabOk rfl ?_
                    refine u_step (o_move rfl ?_)
                    refine u_step (o_fa_loc rfl th27 rfl rfl th25 (by decide) hob ?_)
                    refine u_step (o_ld_loc rfl th25 rfl hob rfl ?_)
                    refine u_step (o_move rfl ?_)
                    first | refine u_step (o_ia_map rfl rfl th25 rfl th27 rfl (by omega) ?_) | refine u_step (o_ia_vs rfl rfl th25 rfl th27 rfl (by omega) ?_)
                    refine u_step (o_ld_el rfl th27 (by first | rfl | simp only [encV_leaf, encV_width, Bool.not_true, TK.agg]) (by first | rfl | simp only [encV_leaf, encV_width, Bool.not_true, TK.agg]) ?_)
                    refine u_step (o_pcall (ih _ (by exact items_lt' (by omega) hv) (by exact may_items hmy (by omega)) (by exact rngVs_get hrg.2 (by omega)) (by have := szVs_get (xs := xs) (j := i) (by omega); omega)) rfl ?_)
                    refine u_step (o_bin_int rfl rfl (by decide) rfl ?_)
                    refine u_step (o_assign rfl ?_)
                    refine u_nil ?_
                    refine hK28 _ ?_
                    refine WP.seq fun K29 hK29 => ?_
                    refine WP.reg tabOk rfl ?_
                    refine u_step (o_fa_loc rfl th27 rfl rfl th3 (by decide) hob ?_)
                    refine u_step (o_ld_loc rfl th3 rfl hob rfl ?_)
                    refine u_step (o_bin_int rfl rfl (by decide) rfl ?_)
                    refine u_nil ?_
                    refine hK29 _ ?_
                    refine WP.cond rfl (fun hc30 => ?_) (fun hc30 => ?_)
                    ·
                      try simp only [Q0, Q1, Q2, Q3, Q4, Q5, Q6, Q7, Q8, ge_iff_le, gt_iff_lt] at hc30
                      have hk7 : kd = 7 := by simpa using hc30
                      have hln7 : ns.length = xs.length := by subst hk7; exact may7 hmy
                      have hni := szN_get (xs := ns) (j := i) (by omega)
                      have htn := textN_le ns[i]
                      refine WP.reg tabOk rfl ?_
                      refine u_step (o_move rfl ?_)
                      refine u_step (o_fa_loc rfl th27 rfl rfl th22 (by decide) hob ?_)
                      refine u_step (o_ld_loc rfl th22 rfl hob rfl ?_)
                      refine u_step (o_move rfl ?_)
                      first | refine u_step (o_ia_map rfl rfl th22 rfl th9 rfl (by omega) ?_) | refine u_step (o_ia_vs rfl rfl th22 rfl th9 rfl (by omega) ?_)
                      refine u_step (o_ld_el rfl th9 (by first | rfl | simp only [encV_leaf, encV_width, Bool.not_true, TK.agg]) (by first | rfl | simp only [encV_leaf, encV_width, Bool.not_true, TK.agg]) ?_)
                      refine u_step (o_rcall (s89 _ (by have := szN_get (xs := ns) (j := i) (by omega); omega)) rfl fun q31 o31 nk31 hqa31 hqb31 hb31 hk31 => ?_)
                      have hob_31 := (hk31 _ (by omega)).trans hob
                      refine u_step (o_len_row rfl th52 rfl hb31 ?_)
                      refine u_step (o_bin_int rfl rfl (by decide) rfl ?_)
                      refine u_step (o_assign rfl ?_)
                      refine u_nil ?_
                      refine hK27 _ ?_
                      refine WP.reg tabOk rfl ?_
                      refine u_step (o_move rfl ?_)
                      refine u_step (o_bin_int rfl rfl (by decide) rfl ?_)
                      refine u_step (o_assign rfl ?_)
                      refine u_nil ?_
                      -- back
                      have hal := accS_le kd xs ns (i + 1)
                      refine ⟨⟨i + 1, o31, nk31⟩, ⟨by omega, by omega, hob_31, (fun t ht => (hk31 t (by omega)).trans ((hfr t (by omega))))⟩, by simp only; omega, ?_⟩
                      refine Le.al ?_
                      simp only [List.forall_mem_cons]
                      refine ⟨rfl, ?_, cnt (by omega), by simp⟩
                      first | exact add_w2 (by rw [bytesD_length, List.length_append]; exact accS_b (by omega) (by omega) hk7) (by omega) | exact add_w (accS_a (by omega) (by simpa using hc30)) (by omega)
                    ·
                      try simp only [Q0, Q1, Q2, Q3, Q4, Q5, Q6, Q7, Q8, ge_iff_le, gt_iff_lt] at hc30
                      refine WP.skip ?_
                      refine hK27 _ ?_
                      refine WP.reg tabOk rfl ?_
                      refine u_step (o_move rfl ?_)
                      refine u_step (o_bin_int rfl rfl (by decide) rfl ?_)
                      refine u_step (o_assign rfl ?_)
                      refine u_nil ?_
                      -- back
                      have hal := accS_le kd xs ns (i + 1)
                      refine ⟨⟨i + 1, o2, nk2⟩, ⟨by omega, by omega, hob, (fun t ht => (hfr t (by omega)))⟩, by simp only; omega, ?_⟩
                      refine Le.al ?_
                      simp only [List.forall_mem_cons]
                      refine ⟨rfl, ?_, cnt (by omega), by simp⟩
                      first | exact add_w2 (by rw [bytesD_length, List.length_append]; exact accS_b (by omega) (by omega) hk7) (by omega) | exact add_w (accS_a (by omega) (by simpa using hc30)) (by omega)
                  ·
                    try simp only [Q0, Q1, Q2, Q3, Q4, Q5, Q6, Q7, Q8, ge_iff_le, gt_iff_lt] at hc26
                    refine WP.exit ?_
                    refine hK22 _ ?_
                    refine WP.seq fun K32 hK32 => ?_
                    refine WP.reg tabOk rfl ?_
                    refine u_step (o_move rfl ?_)
                    refine u_step (o_assign rfl ?_)
                    refine u_nil ?_
                    refine hK32 _ ?_
                    refine WP.ret ?_
                    refine ret_ok rfl ?_ (by omega) (fun t ht => (hfr t (by omega)))
                    -- ret 4
                    clear hK1 hK3 hK4 hK5 hK6 hK9 hK22 hK23 hK24 hK25 hK32
                    refine congrArg (D.int .i64) ?_
                    simp only [beq_iff_eq, beq_eq_false_iff_ne, ne_eq, Bool.or_eq_true, Bool.or_eq_false_iff] at hc7 hc10 hc15 hc20 hc26
                    have hi : i = xs.length := by omega
                    rw [hi]
                    exact congrArg _ (accS_end hmy (by grind) (by grind) (by grind))
                ·
                  refine ⟨by simp, by omega, hb2_21, (fun t ht => (hk21 t (by omega)).trans ((hk2 t (by omega))))⟩
                ·
                  refine Le.al ?_
                  simp only [List.forall_mem_cons]
                  refine ⟨rfl, ?_, rfl, by simp⟩
                  first | exact add_w1 (by (have hk : kd = 6 ∨ kd = 7 := (by simpa using hc20)); (simp only [accS, if_pos hk, bytesD_length, hln, cntN, List.take_zero, sizesV, namesN]); (split <;> omega)) (by have := accS_le kd xs ns 0; omega) | (have hk : ¬ (kd = 6 ∨ kd = 7) := (by simpa using hc20); show SV.d (.int .i64 1) = _; have h1 : accS kd xs ns 0 = 1 := (by simp only [accS, if_neg hk, List.take_zero, sizesV, namesN]; split <;> rfl); rw [h1]; rfl)
              ·
                try simp only [Q0, Q1, Q2, Q3, Q4, Q5, Q6, Q7, Q8, ge_iff_le, gt_iff_lt] at hc20
                refine WP.skip ?_
                refine hK4 _ ?_
                refine WP.seq fun K33 hK33 => ?_
                refine WP.seq fun K34 hK34 => ?_
                refine WP.reg tabOk rfl ?_
                refine u_step (o_assign rfl ?_)
                refine u_nil ?_
                refine hK34 _ ?_
                refine WP.block ?_
                refine WP.loopL (ι := Nat × (Nat → Option AO) × Nat) (fun ⟨i, o2, nk2⟩ => ⟨al [(1, .loc nk 0), (3, .d (.int .i64 (accS kd xs ns i : Nat))), (4, .d (.int .i64 i))], o2, nk2⟩) (fun ⟨i, o2, nk2⟩ => i ≤ xs.length ∧ nk < nk2 ∧ o2 nk = some (.box (([.int .i64 kd, .int .i64 it, .str tx, .sl 5 (encVs xs), .sl 1 (ns.map .str)] : List D).map .d)) ∧ (∀ t, t < nk → o2 t = o t)) (fun ⟨i, o2, nk2⟩ => xs.length - i) (fun ⟨i, o2, nk2⟩ hA => ?_) ⟨0, o2, (nk + 1)⟩ ?_ ?_
                ·
                  obtain ⟨hle, hnk, hob, hfr⟩ := hA
                  refine WP.seq fun K35 hK35 => ?_
                  refine WP.seq fun K36 hK36 => ?_
                  refine WP.reg tabOk rfl ?_
                  refine u_step (o_move rfl ?_)
                  refine u_step (o_fa_loc rfl th27 rfl rfl th25 (by decide) hob ?_)
                  refine u_step (o_ld_loc rfl th25 rfl hob rfl ?_)
                  refine u_step (o_len_sl rfl th25 rfl ?_)
                  refine u_step (o_bin_int rfl rfl (by decide) rfl ?_)
                  refine u_nil ?_
                  refine hK36 _ ?_
                  refine WP.cond rfl (fun hc37 => ?_) (fun hc37 => ?_)
                  ·
                    try simp only [Q0, Q1, Q2, Q3, Q4, Q5, Q6, Q7, Q8, ge_iff_le, gt_iff_lt] at hc37
                    refine WP.skip ?_
                    refine hK35 _ ?_
                    refine WP.seq fun K38 hK38 => ?_
                    refine WP.block ?_
                    refine WP.seq fun K39 hK39 => ?_
                    refine WP.reg tabOk rfl ?_
                    refine u_step (o_move rfl ?_)
                    refine u_step (o_fa_loc rfl th27 rfl rfl th25 (by decide) hob ?_)
                    refine u_step (o_ld_loc rfl th25 rfl hob rfl ?_)
                    refine u_step (o_move rfl ?_)
                    first | refine u_step (o_ia_map rfl rfl th25 rfl th27 rfl (by omega) ?_) | refine u_step (o_ia_vs rfl rfl th25 rfl th27 rfl (by omega) ?_)
                    refine u_step (o_ld_el rfl th27 (by first | rfl | simp only [encV_leaf, encV_width, Bool.not_true, TK.agg]) (by first | rfl | simp only [encV_leaf, encV_width, Bool.not_true, TK.agg]) ?_)
                    refine u_step (o_pcall (ih _ (by exact items_lt' (by omega) hv) (by exact may_items hmy (by omega)) (by exact rngVs_get hrg.2 (by omega)) (by have := szVs_get (xs := xs) (j := i) (by omega); omega)) rfl ?_)
                    refine u_step (o_bin_int rfl rfl (by decide) rfl ?_)
                    refine u_step (o_assign rfl ?_)
                    refine u_nil ?_
                    refine hK39 _ ?_
                    refine WP.seq fun K40 hK40 => ?_
                    refine WP.reg tabOk rfl ?_
                    refine u_step (o_fa_loc rfl th27 rfl rfl th3 (by decide) hob ?_)
                    refine u_step (o_ld_loc rfl th3 rfl hob rfl ?_)
                    refine u_step (o_bin_int rfl rfl (by decide) rfl ?_)
                    refine u_nil ?_
                    refine hK40 _ ?_
                    refine WP.cond rfl (fun hc41 => ?_) (fun hc41 => ?_)
                    ·
                      try simp only [Q0, Q1, Q2, Q3, Q4, Q5, Q6, Q7, Q8, ge_iff_le, gt_iff_lt] at hc41
                      have hk7 : kd = 7 := by simpa using hc41
                      have hln7 : ns.length = xs.length := by subst hk7; exact may7 hmy
                      have hni := szN_get (xs := ns) (j := i) (by omega)
                      have htn := textN_le ns[i]
                      refine WP.reg tabOk rfl ?_
                      refine u_step (o_move rfl ?_)
                      refine u_step (o_fa_loc rfl th27 rfl rfl th22 (by decide) hob ?_)
                      refine u_step (o_ld_loc rfl th22 rfl hob rfl ?_)
                      refine u_step (o_move rfl ?_)
                      first | refine u_step (o_ia_map rfl rfl th22 rfl th9 rfl (by omega) ?_) | refine u_step (o_ia_vs rfl rfl th22 rfl th9 rfl (by omega) ?_)
                      refine u_step (o_ld_el rfl th9 (by first | rfl | simp only [encV_leaf, encV_width, Bool.not_true, TK.agg]) (by first | rfl | simp only [encV_leaf, encV_width, Bool.not_true, TK.agg]) ?_)
                      refine u_step (o_rcall (s89 _ (by have := szN_get (xs := ns) (j := i) (by omega); omega)) rfl fun q42 o42 nk42 hqa42 hqb42 hb42 hk42 => ?_)
                      have hob_42 := (hk42 _ (by omega)).trans hob
                      refine u_step (o_len_row rfl th52 rfl hb42 ?_)
                      refine u_step (o_bin_int rfl rfl (by decide) rfl ?_)
                      refine u_step (o_assign rfl ?_)
                      refine u_nil ?_
                      refine hK38 _ ?_
                      refine WP.reg tabOk rfl ?_
                      refine u_step (o_move rfl ?_)
                      refine u_step (o_bin_int rfl rfl (by decide) rfl ?_)
                      refine u_step (o_assign rfl ?_)
                      refine u_nil ?_
                      -- back
                      have hal := accS_le kd xs ns (i + 1)
                      refine ⟨⟨i + 1, o42, nk42⟩, ⟨by omega, by omega, hob_42, (fun t ht => (hk42 t (by omega)).trans ((hfr t (by omega))))⟩, by simp only; omega, ?_⟩
                      refine Le.al ?_
                      simp only [List.forall_mem_cons]
                      refine ⟨rfl, ?_, cnt (by omega), by simp⟩
                      first | exact add_w2 (by rw [bytesD_length, List.length_append]; exact accS_b (by omega) (by omega) hk7) (by omega) | exact add_w (accS_a (by omega) (by simpa using hc41)) (by omega)
                    ·
                      try simp only [Q0, Q1, Q2, Q3, Q4, Q5, Q6, Q7, Q8, ge_iff_le, gt_iff_lt] at hc41
                      refine WP.skip ?_
                      refine hK38 _ ?_
                      refine WP.reg tabOk rfl ?_
                      refine u_step (o_move rfl ?_)
                      refine u_step (o_bin_int rfl rfl (by decide) rfl ?_)
                      refine u_step (o_assign rfl ?_)
                      refine u_nil ?_
                      -- back
                      have hal := accS_le kd xs ns (i + 1)
                      refine ⟨⟨i + 1, o2, nk2⟩, ⟨by omega, by omega, hob, (fun t ht => (hfr t (by omega)))⟩, by simp only; omega, ?_⟩
                      refine Le.al ?_
                      simp only [List.forall_mem_cons]
                      refine ⟨rfl, ?_, cnt (by omega), by simp⟩
                      first | exact add_w2 (by rw [bytesD_length, List.length_append]; exact accS_b (by omega) (by omega) hk7) (by omega) | exact add_w (accS_a (by omega) (by simpa using hc41)) (by omega)
                  ·
                    try simp only [Q0, Q1, Q2, Q3, Q4, Q5, Q6, Q7, Q8, ge_iff_le, gt_iff_lt] at hc37
                    refine WP.exit ?_
                    refine hK33 _ ?_
                    refine WP.seq fun K43 hK43 => ?_
                    refine WP.reg tabOk rfl ?_
                    refine u_step (o_move rfl ?_)
                    refine u_step (o_assign rfl ?_)
                    refine u_nil ?_
                    refine hK43 _ ?_
                    refine WP.ret ?_
                    refine ret_ok rfl ?_ (by omega) (fun t ht => (hfr t (by omega)))
                    -- ret 5
                    clear hK1 hK3 hK4 hK5 hK6 hK9 hK33 hK34 hK35 hK36 hK43
                    refine congrArg (D.int .i64) ?_
                    simp only [beq_iff_eq, beq_eq_false_iff_ne, ne_eq, Bool.or_eq_true, Bool.or_eq_false_iff] at hc7 hc10 hc15 hc20 hc37
                    have hi : i = xs.length := by omega
                    rw [hi]
                    exact congrArg _ (accS_end hmy (by grind) (by grind) (by grind))
                ·
                  refine ⟨by simp, by omega, hb2, (fun t ht => (hk2 t (by omega)))⟩
                ·
                  refine Le.al ?_
                  simp only [List.forall_mem_cons]
                  refine ⟨rfl, ?_, rfl, by simp⟩
                  first | exact add_w1 (by (have hk : kd = 6 ∨ kd = 7 := (by simpa using hc20)); (simp only [accS, if_pos hk, bytesD_length, hln, cntN, List.take_zero, sizesV, namesN]); (split <;> omega)) (by have := accS_le kd xs ns 0; omega) | (have hk : ¬ (kd = 6 ∨ kd = 7) := (by simpa using hc20); show SV.d (.int .i64 1) = _; have h1 : accS kd xs ns 0 = 1 := (by simp only [accS, if_neg hk, List.take_zero, sizesV, namesN]; split <;> rfl); rw [h1]; rfl)
theorem s117 (v : Val) (hmy : mayV v = true) (hrg : rngV v) (hsz : szV v ≤ 1099511627776) : PSpec Tryz.prog 117 [.d (encV v)] (.d (.int .i64 (sizeV v : Int))) := s117A _ v (Nat.lt_succ_self _) hmy hrg hsz

end Go.Proofs.YtpkcbdhjnnnkbaaGreat.Abs

set_option linter.unusedVariables false
set_option linter.unusedSimpArgs false
set_option maxRecDepth 10000
namespace Go.Proofs.YtpkcbdhjnnnkbaaGreat.Abs
open Go
/-- What is wrong with a value. -/
def checkV (v : Val) : Int := if mayV v = false then 20 else if 8 < depthV v then 21 else if 4096 < sizeV v then 22 else 0

theorem fn123 : FnOk Tryz.prog 123 15 [2] (bodyOf Tryz.f123) := ⟨Tryz.f123, Tryz.func123, by kernel_rfl, by decide, by kernel_rfl, by kernel_rfl⟩
theorem s123 (v : Val) (hrg : rngV v) (hsz : szV v ≤ 1099511627776) : PSpec Tryz.prog 123 [.d (encV v)] (.d (.int .i64 (checkV v))) := by
  obtain ⟨kd, it, tx, xs, ns⟩ := v
  refine PSpec.of fn123 (by simp) fun o nk => ?_
  refine WP.seq fun K1 hK1 => ?_
  refine WP.reg tabOk rfl ?_
  refine u_step (g_box rfl fun o2 hb2 hk2 => ?_)
  refine u_step (o_assign rfl ?_)
  refine u_nil ?_
  refine hK1 _ ?_
  refine WP.seq fun K3 hK3 => ?_
  refine WP.block ?_
  refine WP.seq fun K4 hK4 => ?_
  refine WP.reg tabOk rfl ?_
  refine u_step (o_ld_agg rfl th27 rfl hb2 rfl rfl rfl ?_)
  refine u_step (o_pcall (s76 (.mk kd it tx xs ns)) rfl ?_)
  refine u_step (o_not rfl ?_)
  refine u_step (o_assign rfl ?_)
  refine u_nil ?_
  refine hK4 _ ?_
  refine WP.cond rfl (fun hc5 => ?_) (fun hc5 => ?_)
  ·
    try simp only [Q0, Q1, Q2, Q3, Q4, Q5, Q6, Q7, Q8, ge_iff_le, gt_iff_lt] at hc5
    refine WP.seq fun K6 hK6 => ?_
    refine WP.reg tabOk rfl ?_
    refine u_step (o_assign rfl ?_)
    refine u_nil ?_
    refine hK6 _ ?_
    refine WP.ret ?_
    refine ret_ok rfl ?_ (by omega) (fun t ht => (hk2 t (by omega)))
    -- ret 1
    clear hK1 hK3 hK4 hK6
    refine congrArg (D.int .i64) ?_
    simp only [checkV]
    grind
  ·
    try simp only [Q0, Q1, Q2, Q3, Q4, Q5, Q6, Q7, Q8, ge_iff_le, gt_iff_lt] at hc5
    refine WP.seq fun K7 hK7 => ?_
    refine WP.reg tabOk rfl ?_
    refine u_step (o_ld_agg rfl th27 rfl hb2 rfl rfl rfl ?_)
    refine u_step (o_pcall (s160 (.mk kd it tx xs ns) hsz) rfl ?_)
    refine u_step (o_bin_int rfl rfl (by decide) rfl ?_)
    refine u_step (o_assign rfl ?_)
    refine u_nil ?_
    refine hK7 _ ?_
    refine WP.cond rfl (fun hc8 => ?_) (fun hc8 => ?_)
    ·
      try simp only [Q0, Q1, Q2, Q3, Q4, Q5, Q6, Q7, Q8, ge_iff_le, gt_iff_lt] at hc8
      refine WP.seq fun K9 hK9 => ?_
      refine WP.reg tabOk rfl ?_
      refine u_step (o_assign rfl ?_)
      refine u_nil ?_
      refine hK9 _ ?_
      refine WP.ret ?_
      refine ret_ok rfl ?_ (by omega) (fun t ht => (hk2 t (by omega)))
      -- ret 2
      clear hK1 hK3 hK4 hK7 hK9
      refine congrArg (D.int .i64) ?_
      simp only [checkV]
      grind
    ·
      try simp only [Q0, Q1, Q2, Q3, Q4, Q5, Q6, Q7, Q8, ge_iff_le, gt_iff_lt] at hc8
      refine WP.seq fun K10 hK10 => ?_
      refine WP.reg tabOk rfl ?_
      refine u_step (o_ld_agg rfl th27 rfl hb2 rfl rfl rfl ?_)
      refine u_step (o_pcall (s161 (.mk kd it tx xs ns) (by assumption) hrg hsz) rfl ?_)
      refine u_step (o_bin_int rfl rfl (by decide) rfl ?_)
      refine u_step (o_assign rfl ?_)
      refine u_nil ?_
      refine hK10 _ ?_
      refine WP.cond rfl (fun hc11 => ?_) (fun hc11 => ?_)
      ·
        try simp only [Q0, Q1, Q2, Q3, Q4, Q5, Q6, Q7, Q8, ge_iff_le, gt_iff_lt] at hc11
        refine WP.seq fun K12 hK12 => ?_
        refine WP.reg tabOk rfl ?_
        refine u_step (o_assign rfl ?_)
        refine u_nil ?_
        refine hK12 _ ?_
        refine WP.ret ?_
        refine ret_ok rfl ?_ (by omega) (fun t ht => (hk2 t (by omega)))
        -- ret 3
        clear hK1 hK3 hK4 hK7 hK10 hK12
        refine congrArg (D.int .i64) ?_
        simp only [checkV]
        grind
      ·
        try simp only [Q0, Q1, Q2, Q3, Q4, Q5, Q6, Q7, Q8, ge_iff_le, gt_iff_lt] at hc11
        refine WP.skip ?_
        refine hK3 _ ?_
        refine WP.seq fun K13 hK13 => ?_
        refine WP.reg tabOk rfl ?_
        refine u_step (o_assign rfl ?_)
        refine u_nil ?_
        refine hK13 _ ?_
        refine WP.ret ?_
        refine ret_ok rfl ?_ (by omega) (fun t ht => (hk2 t (by omega)))
        -- ret 4
        clear hK1 hK3 hK4 hK7 hK10 hK13
        refine congrArg (D.int .i64) ?_
        simp only [checkV]
        grind

theorem fn66 : FnOk Tryz.prog 66 15 [2] (bodyOf Tryz.f66) := ⟨Tryz.f66, Tryz.func66, by kernel_rfl, by decide, by kernel_rfl, by kernel_rfl⟩
theorem s66 (v : Val) (hrg : rngV v) (hsz : szV v ≤ 1099511627776) : PSpec Tryz.prog 66 [.d (encV v)] (.d (.int .i64 (checkV v))) := by
  obtain ⟨kd, it, tx, xs, ns⟩ := v
  refine PSpec.of fn66 (by simp) fun o nk => ?_
  refine WP.seq fun K1 hK1 => ?_
  refine WP.reg tabOk rfl ?_
  refine u_step (g_box rfl fun o2 hb2 hk2 => ?_)
  refine u_step (o_assign rfl ?_)
  refine u_nil ?_
  refine hK1 _ ?_
  refine WP.seq fun K3 hK3 => ?_
  refine WP.block ?_
  refine WP.seq fun K4 hK4 => ?_
  refine WP.reg tabOk rfl ?_
  refine u_step (o_ld_agg rfl th27 rfl hb2 rfl rfl rfl ?_)
  refine u_step (o_pcall (s80 (.mk kd it tx xs ns)) rfl ?_)
  refine u_step (o_not rfl ?_)
  refine u_step (o_assign rfl ?_)
  refine u_nil ?_
  refine hK4 _ ?_
  refine WP.cond rfl (fun hc5 => ?_) (fun hc5 => ?_)
  ·
    try simp only [Q0, Q1, Q2, Q3, Q4, Q5, Q6, Q7, Q8, ge_iff_le, gt_iff_lt] at hc5
    refine WP.seq fun K6 hK6 => ?_
    refine WP.reg tabOk rfl ?_
    refine u_step (o_assign rfl ?_)
    refine u_nil ?_
    refine hK6 _ ?_
    refine WP.ret ?_
    refine ret_ok rfl ?_ (by omega) (fun t ht => (hk2 t (by omega)))
    -- ret 1
    clear hK1 hK3 hK4 hK6
    refine congrArg (D.int .i64) ?_
    simp only [checkV]
    grind
  ·
    try simp only [Q0, Q1, Q2, Q3, Q4, Q5, Q6, Q7, Q8, ge_iff_le, gt_iff_lt] at hc5
    refine WP.seq fun K7 hK7 => ?_
    refine WP.reg tabOk rfl ?_
    refine u_step (o_ld_agg rfl th27 rfl hb2 rfl rfl rfl ?_)
    refine u_step (o_pcall (s116 (.mk kd it tx xs ns) hsz) rfl ?_)
    refine u_step (o_bin_int rfl rfl (by decide) rfl ?_)
    refine u_step (o_assign rfl ?_)
    refine u_nil ?_
    refine hK7 _ ?_
    refine WP.cond rfl (fun hc8 => ?_) (fun hc8 => ?_)
    ·
      try simp only [Q0, Q1, Q2, Q3, Q4, Q5, Q6, Q7, Q8, ge_iff_le, gt_iff_lt] at hc8
      refine WP.seq fun K9 hK9 => ?_
      refine WP.reg tabOk rfl ?_
      refine u_step (o_assign rfl ?_)
      refine u_nil ?_
      refine hK9 _ ?_
      refine WP.ret ?_
      refine ret_ok rfl ?_ (by omega) (fun t ht => (hk2 t (by omega)))
      -- ret 2
      clear hK1 hK3 hK4 hK7 hK9
      refine congrArg (D.int .i64) ?_
      simp only [checkV]
      grind
    ·
      try simp only [Q0, Q1, Q2, Q3, Q4, Q5, Q6, Q7, Q8, ge_iff_le, gt_iff_lt] at hc8
      refine WP.seq fun K10 hK10 => ?_
      refine WP.reg tabOk rfl ?_
      refine u_step (o_ld_agg rfl th27 rfl hb2 rfl rfl rfl ?_)
      refine u_step (o_pcall (s117 (.mk kd it tx xs ns) (by assumption) hrg hsz) rfl ?_)
      refine u_step (o_bin_int rfl rfl (by decide) rfl ?_)
      refine u_step (o_assign rfl ?_)
      refine u_nil ?_
      refine hK10 _ ?_
      refine WP.cond rfl (fun hc11 => ?_) (fun hc11 => ?_)
      ·
        try simp only [Q0, Q1, Q2, Q3, Q4, Q5, Q6, Q7, Q8, ge_iff_le, gt_iff_lt] at hc11
        refine WP.seq fun K12 hK12 => ?_
        refine WP.reg tabOk rfl ?_
        refine u_step (o_assign rfl ?_)
        refine u_nil ?_
        refine hK12 _ ?_
        refine WP.ret ?_
        refine ret_ok rfl ?_ (by omega) (fun t ht => (hk2 t (by omega)))
        -- ret 3
        clear hK1 hK3 hK4 hK7 hK10 hK12
        refine congrArg (D.int .i64) ?_
        simp only [checkV]
        grind
      ·
        try simp only [Q0, Q1, Q2, Q3, Q4, Q5, Q6, Q7, Q8, ge_iff_le, gt_iff_lt] at hc11
        refine WP.skip ?_
        refine hK3 _ ?_
        refine WP.seq fun K13 hK13 => ?_
        refine WP.reg tabOk rfl ?_
        refine u_step (o_assign rfl ?_)
        refine u_nil ?_
        refine hK13 _ ?_
        refine WP.ret ?_
        refine ret_ok rfl ?_ (by omega) (fun t ht => (hk2 t (by omega)))
        -- ret 4
        clear hK1 hK3 hK4 hK7 hK10 hK13
        refine congrArg (D.int .i64) ?_
        simp only [checkV]
        grind

end Go.Proofs.YtpkcbdhjnnnkbaaGreat.Abs

set_option linter.unusedVariables false
set_option linter.unusedSimpArgs false
set_option maxRecDepth 10000
namespace Go.Proofs.YtpkcbdhjnnnkbaaGreat.Abs
open Go
/-- A text that may be a collection's name. -/
def collV (s : Str) : Bool := decide (1 ≤ s.length ∧ s.length ≤ 32 ∧ (36 : UInt8) ∉ s ∧ (0 : UInt8) ∉ s)
/-- Nothing at all. -/
def noneV (v : Val) : Bool := decide (v.kind = 0 ∧ v.int = 0 ∧ v.text = [] ∧ v.items = [] ∧ v.names = [])
theorem same_iff {k k' i i' : Int} {t t' : Str} {xs ys : List Val} {ns ms : List Str} : sameV (.mk k i t xs ns) (.mk k' i' t' ys ms) = true ↔ k = k' ∧ i = i' ∧ t = t' ∧ xs = ys ∧ ns = ms := by
  simp [sameV]
theorem same_refl (v : Val) : sameV v v = true := by simp [sameV]
theorem same_eq {v w : Val} : sameV v w = true ↔ v = w := by simp [sameV]
theorem same_ne {v w : Val} (h : v ≠ w) : sameV v w = false := by simp [sameV, h]
theorem any_not {α : Type} (xs : List α) (p : α → Bool) : (xs.any fun x => !p x) = !xs.all p := by
  induction xs with
  | nil => rfl
  | cons x xs ih => simp [ih, Bool.not_and]
theorem none_mk (k i : Int) (t : Str) (xs : List Val) (ns : List Str) : noneV (.mk k i t xs ns) = decide (k = 0 ∧ i = 0 ∧ t = [] ∧ xs = [] ∧ ns = []) := rfl
theorem none_same (v : Val) : sameV v (.mk 0 0 [] [] []) = noneV v := by
  cases v
  rw [Bool.eq_iff_iff, same_iff, none_mk, decide_eq_true_eq]

theorem fn110 : FnOk Tryz.prog 110 6 [2] (bodyOf Tryz.f110) := ⟨Tryz.f110, Tryz.func110, by kernel_rfl, by decide, by kernel_rfl, by kernel_rfl⟩
theorem s110 (s : Str) : PSpec Tryz.prog 110 [.d (.str s)] (.d (.bool (!nameV s))) := by
  refine PSpec.of fn110 (by simp) fun o nk => ?_
  refine WP.seq fun K1 hK1 => ?_
  refine WP.reg tabOk rfl ?_
  refine u_step (o_assign rfl ?_)
  refine u_nil ?_
  refine hK1 _ ?_
  refine WP.seq fun K2 hK2 => ?_
  refine WP.reg tabOk rfl ?_
  refine u_step (o_move rfl ?_)
  refine u_step (o_pcall (s111 _) rfl ?_)
  refine u_step (o_not rfl ?_)
  refine u_step (o_assign rfl ?_)
  refine u_nil ?_
  refine hK2 _ ?_
  refine WP.ret ?_
  refine ret_ok rfl ?_ (by omega) (fun _ _ => rfl)
  -- ret 1
  rfl

theorem fn56 : FnOk Tryz.prog 56 18 [2] (bodyOf Tryz.f56) := ⟨Tryz.f56, Tryz.func56, by kernel_rfl, by decide, by kernel_rfl, by kernel_rfl⟩
theorem s56 (ns : List Str) : PSpec Tryz.prog 56 [.d (.sl 1 (ns.map .str))] (.d (.bool (pathV ns))) := by
  refine PSpec.of fn56 (by simp) fun o nk => ?_
  refine WP.seq fun K1 hK1 => ?_
  refine WP.reg tabOk rfl ?_
  refine u_step (o_assign rfl ?_)
  refine u_nil ?_
  refine hK1 _ ?_
  refine WP.seq fun K2 hK2 => ?_
  refine WP.reg tabOk rfl ?_
  refine u_step (o_assignV (v := .clo _ _ _) rfl ?_)
  refine u_nil ?_
  refine hK2 _ ?_
  refine WP.seq fun K3 hK3 => ?_
  refine WP.reg tabOk rfl ?_
  refine u_step (o_move rfl ?_)
  refine u_step (o_len_sl rfl th22 rfl ?_)
  refine u_step (o_bin_int rfl rfl (by decide) rfl ?_)
  refine u_step (o_move rfl ?_)
  apply u_guard
  · exact GC.t _
  · intro hg
    refine o_move rfl ⟨rfl, rfl, rfl⟩
  apply u_guard
  · exact GC.t _
  · intro hg; try simp only [hg, cnd_true]; try simp only [hg, cnd_true, Bool.true_and]
    refine o_len_sl rfl th22 rfl ⟨rfl, rfl, rfl⟩
  apply u_guard
  · exact GC.t _
  · intro hg; try simp only [hg, cnd_true]; try simp only [hg, cnd_true, Bool.true_and]
    refine o_bin_int rfl rfl (by decide) rfl ⟨rfl, rfl, rfl⟩
  refine u_step (o_pick_and rfl rfl rfl ?_)
  refine u_step (o_move rfl ?_)
  apply u_guard
  · exact GC.t _
  · intro hg
    refine o_move rfl ⟨rfl, rfl, rfl⟩
  apply u_guard
  · exact GC.t _
  · intro hg
    refine o_moveV (v := .clo _ _ _) rfl ⟨rfl, rfl, rfl⟩
  apply u_guard
  · exact GC.t _
  · intro hg; try simp only [hg, cnd_true]; try simp only [hg, cnd_true, Bool.true_and]
    refine o_scall (s112 ns 110 [] [] (fun s => !nameV s) (fun x hx => s110 x _ _)) rfl ⟨rfl, rfl, rfl⟩
  apply u_guard
  · exact GC.t _
  · intro hg; try simp only [hg, cnd_true]; try simp only [hg, cnd_true, Bool.true_and]
    refine o_not rfl ⟨rfl, rfl, rfl⟩
  refine u_step (o_pick_and rfl rfl rfl ?_)
  refine u_step (o_assign rfl ?_)
  refine u_nil ?_
  refine hK3 _ ?_
  refine WP.ret ?_
  refine ret_ok rfl ?_ (by omega) (fun _ _ => rfl)
  -- ret 1
  refine congrArg D.bool ?_
  rw [any_not, Bool.eq_iff_iff]
  simp [pathV]
  grind

theorem fn49 : FnOk Tryz.prog 49 28 [2] (bodyOf Tryz.f49) := ⟨Tryz.f49, Tryz.func49, by kernel_rfl, by decide, by kernel_rfl, by kernel_rfl⟩
theorem s49 (x : Str) : PSpec Tryz.prog 49 [.d (.str x)] (.d (.bool (collV x))) := by
  refine PSpec.bd fun hbd => ?_
  have hx : x.length ≤ 9223372036854775807 := hbd.1
  refine PSpec.of fn49 (by simp) fun o nk => ?_
  refine WP.seq fun K1 hK1 => ?_
  refine WP.reg tabOk rfl ?_
  refine u_step (o_assign rfl ?_)
  refine u_nil ?_
  refine hK1 _ ?_
  refine WP.seq fun K2 hK2 => ?_
  refine WP.seq fun K3 hK3 => ?_
  refine WP.reg tabOk rfl ?_
  refine u_step (o_assign rfl ?_)
  refine u_nil ?_
  refine hK3 _ ?_
  refine WP.block ?_
  refine WP.loopL (ι := Nat) (fun i => ⟨al [(0, .d (.str x)), (3, .d (.int .i64 i))], o, nk⟩) (fun i => i ≤ x.length ∧ (36 : UInt8) ∉ x.take i ∧ (0 : UInt8) ∉ x.take i) (fun i => x.length - i) (fun i hA => ?_) 0 ?_ ?_
  ·
    obtain ⟨hle_i, hin_i⟩ := hA
    refine WP.seq fun K4 hK4 => ?_
    refine WP.seq fun K5 hK5 => ?_
    refine WP.reg tabOk rfl ?_
    refine u_step (o_move rfl ?_)
    refine u_step (o_move rfl ?_)
    refine u_step (o_len_str rfl th9 rfl ?_)
    refine u_step (o_bin_int rfl rfl (by decide) rfl ?_)
    refine u_nil ?_
    refine hK5 _ ?_
    refine WP.cond rfl (fun hc6 => ?_) (fun hc6 => ?_)
    ·
      try simp only [Q0, Q1, Q2, Q3, Q4, Q5, Q6, Q7, Q8, ge_iff_le, gt_iff_lt] at hc6
      refine WP.skip ?_
      refine hK4 _ ?_
      refine WP.seq fun K7 hK7 => ?_
      refine WP.block ?_
      refine WP.seq fun K8 hK8 => ?_
      refine WP.reg tabOk rfl ?_
      refine u_step (o_move rfl ?_)
      refine u_step (o_move rfl ?_)
      refine u_step (o_ix rfl rfl th9 rfl ?_ ?_ ?_)
      · exact Int.natCast_nonneg _
      · simp; omega
      refine u_step (o_bin_int rfl rfl (by decide) rfl ?_)
      refine u_step (o_move rfl ?_)
      apply u_guard
      · exact GC.f _
      · intro hg
        refine o_move rfl ⟨rfl, rfl, rfl⟩
      apply u_guard
      · exact GC.f _
      · intro hg
        refine o_move rfl ⟨rfl, rfl, rfl⟩
      apply u_guard
      · exact GC.f _
      · intro hg; try simp only [hg, cnd_true]; try simp only [hg, cnd_true, Bool.true_and]
        have hg2 := hg; try simp only [Q0, Q1, Q2, Q3, Q4, Q5, Q6, Q9, Qa, Qb, Qc, Qd] at hg2
        refine o_ix rfl rfl th9 rfl ?_ ?_ ⟨rfl, rfl, rfl⟩
        · exact Int.natCast_nonneg _
        · simp; omega
      apply u_guard
      · exact GC.f _
      · intro hg; try simp only [hg, cnd_true]; try simp only [hg, cnd_true, Bool.true_and]
        refine o_bin_int rfl rfl (by decide) rfl ⟨rfl, rfl, rfl⟩
      refine u_step (o_pick_or rfl rfl rfl ?_)
      refine u_nil ?_
      refine hK8 _ ?_
      refine WP.cond rfl (fun hc9 => ?_) (fun hc9 => ?_)
      ·
        try simp only [Q0, Q1, Q2, Q3, Q4, Q5, Q6, Q7, Q8, ge_iff_le, gt_iff_lt] at hc9
        refine WP.seq fun K10 hK10 => ?_
        refine WP.reg tabOk rfl ?_
        refine u_step (o_assign rfl ?_)
        refine u_nil ?_
        refine hK10 _ ?_
        refine WP.ret ?_
        refine ret_ok rfl ?_ (by omega) (fun _ _ => rfl)
        -- ret 1
        have he := bAt_eq (l := x) (i := i) (by omega)
        have hb := hc9
        simp only [Int.toNat_natCast, he, Bool.or_eq_true, beq_iff_eq] at hb
        have hm := List.getElem_mem (l := x) (n := i) (by omega)
        refine congrArg D.bool ?_
        rcases hb with hb | hb
        · rw [(toNat_eq (n := 36) (by omega)).1 hb] at hm; simp at hm; simp [collV, hm]
        · rw [(toNat_eq (n := 0) (by omega)).1 hb] at hm; simp at hm; simp [collV, hm]
      ·
        try simp only [Q0, Q1, Q2, Q3, Q4, Q5, Q6, Q7, Q8, ge_iff_le, gt_iff_lt] at hc9
        refine WP.skip ?_
        refine hK7 _ ?_
        refine WP.reg tabOk rfl ?_
        refine u_step (o_move rfl ?_)
        refine u_step (o_bin_int rfl rfl (by decide) rfl ?_)
        refine u_step (o_assign rfl ?_)
        refine u_nil ?_
        -- back
        refine ⟨i + 1, ⟨by omega, ?_⟩, by omega, ?_⟩
        · have hb := Bool.or_eq_false_iff.1 hc9
          have he := bAt_eq (l := x) (i := i) (by omega)
          simp only [Int.toNat_natCast, he, beq_eq_false_iff_ne, ne_eq] at hb
          rw [take_snoc (by omega)]; simp only [List.mem_append, List.mem_singleton, not_or]
          refine ⟨⟨hin_i.1, fun e => hb.1 (by rw [← e]; rfl)⟩, ⟨hin_i.2, fun e => hb.2 (by rw [← e]; rfl)⟩⟩
        · refine Le.al ?_
          simp only [List.forall_mem_cons]
          exact ⟨rfl, cnt (by omega), by simp⟩
    ·
      try simp only [Q0, Q1, Q2, Q3, Q4, Q5, Q6, Q7, Q8, ge_iff_le, gt_iff_lt] at hc6
      refine WP.exit ?_
      refine hK2 _ ?_
      refine WP.seq fun K11 hK11 => ?_
      refine WP.reg tabOk rfl ?_
      refine u_step (o_move rfl ?_)
      refine u_step (o_len_str rfl th9 rfl ?_)
      refine u_step (o_bin_int rfl rfl (by decide) rfl ?_)
      refine u_step (o_move rfl ?_)
      apply u_guard
      · exact GC.t _
      · intro hg
        refine o_move rfl ⟨rfl, rfl, rfl⟩
      apply u_guard
      · exact GC.t _
      · intro hg; try simp only [hg, cnd_true]; try simp only [hg, cnd_true, Bool.true_and]
        refine o_len_str rfl th9 rfl ⟨rfl, rfl, rfl⟩
      apply u_guard
      · exact GC.t _
      · intro hg; try simp only [hg, cnd_true]; try simp only [hg, cnd_true, Bool.true_and]
        refine o_bin_int rfl rfl (by decide) rfl ⟨rfl, rfl, rfl⟩
      refine u_step (o_pick_and rfl rfl rfl ?_)
      refine u_step (o_assign rfl ?_)
      refine u_nil ?_
      refine hK11 _ ?_
      refine WP.ret ?_
      refine ret_ok rfl ?_ (by omega) (fun _ _ => rfl)
      -- ret 2
      rw [List.take_of_length_le (by omega)] at hin_i
      refine congrArg D.bool ?_
      rw [Bool.eq_iff_iff]
      simp [collV, hin_i.1, hin_i.2]
      omega
  ·
    simp
  ·
    refine Le.al ?_
    simp only [List.forall_mem_cons]
    exact ⟨rfl, rfl, by simp⟩

theorem fn100 : FnOk Tryz.prog 100 12 [4] (bodyOf Tryz.f100) := ⟨Tryz.f100, Tryz.func100, by kernel_rfl, by decide, by kernel_rfl, by kernel_rfl⟩
theorem s100 (a b : Int) : PSpec Tryz.prog 100 [.d (.int .i64 a), .d (.int .i64 b)] (.d (.bool (decide (0 ≤ a ∧ a ≤ b)))) := by
  refine PSpec.of fn100 (by simp) fun o nk => ?_
  refine WP.seq fun K1 hK1 => ?_
  refine WP.reg tabOk rfl ?_
  refine u_step (o_assign rfl ?_)
  refine u_nil ?_
  refine hK1 _ ?_
  refine WP.seq fun K2 hK2 => ?_
  refine WP.reg tabOk rfl ?_
  refine u_step (o_move rfl ?_)
  refine u_step (o_bin_int rfl rfl (by decide) rfl ?_)
  refine u_step (o_move rfl ?_)
  apply u_guard
  · exact GC.t _
  · intro hg
    refine o_move rfl ⟨rfl, rfl, rfl⟩
  apply u_guard
  · exact GC.t _
  · intro hg
    refine o_move rfl ⟨rfl, rfl, rfl⟩
  apply u_guard
  · exact GC.t _
  · intro hg; try simp only [hg, cnd_true]; try simp only [hg, cnd_true, Bool.true_and]
    refine o_bin_int rfl rfl (by decide) rfl ⟨rfl, rfl, rfl⟩
  refine u_step (o_pick_and rfl rfl rfl ?_)
  refine u_step (o_assign rfl ?_)
  refine u_nil ?_
  refine hK2 _ ?_
  refine WP.ret ?_
  refine ret_ok rfl ?_ (by omega) (fun _ _ => rfl)
  -- ret 1
  refine congrArg D.bool ?_
  rw [Bool.eq_iff_iff]
  simp

theorem fn147 : FnOk Tryz.prog 147 26 [2] (bodyOf Tryz.f147) := ⟨Tryz.f147, Tryz.func147, by kernel_rfl, by decide, by kernel_rfl, by kernel_rfl⟩
theorem s147 (v : Val) (hsz : szV v ≤ 1099511627776) : PSpec Tryz.prog 147 [.d (encV v)] (.d (.bool (noneV v))) := by
  obtain ⟨kd, it, tx, xs, ns⟩ := v
  have hsz2 : 1 + tx.length + szVs xs + szN ns ≤ 1099511627776 := hsz
  have hxl := szVs_len xs
  have hnl := szN_len ns
  refine PSpec.of fn147 (by simp) fun o nk => ?_
  refine WP.seq fun K1 hK1 => ?_
  refine WP.reg tabOk rfl ?_
  refine u_step (g_box rfl fun o2 hb2 hk2 => ?_)
  refine u_step (o_assign rfl ?_)
  refine u_nil ?_
  refine hK1 _ ?_
  refine WP.seq fun K3 hK3 => ?_
  refine WP.reg tabOk rfl ?_
  refine u_step (o_fa_loc rfl th27 rfl rfl th3 (by decide) hb2 ?_)
  refine u_step (o_ld_loc rfl th3 rfl hb2 rfl ?_)
  refine u_step (o_bin_int rfl rfl (by decide) rfl ?_)
  refine u_step (o_move rfl ?_)
  apply u_guard
  · exact GC.t _
  · intro hg
    refine o_fa_loc rfl th27 rfl rfl th3 (by decide) hb2 ⟨rfl, rfl, rfl⟩
  apply u_guard
  · exact GC.t _
  · intro hg; try simp only [hg, cnd_true]; try simp only [hg, cnd_true, Bool.true_and]
    refine o_ld_loc rfl th3 rfl hb2 rfl ⟨rfl, rfl, rfl⟩
  apply u_guard
  · exact GC.t _
  · intro hg; try simp only [hg, cnd_true]; try simp only [hg, cnd_true, Bool.true_and]
    refine o_bin_int rfl rfl (by decide) rfl ⟨rfl, rfl, rfl⟩
  refine u_step (o_pick_and rfl rfl rfl ?_)
  refine u_step (o_move rfl ?_)
  apply u_guard
  · exact GC.t _
  · intro hg
    refine o_fa_loc rfl th27 rfl rfl th9 (by decide) hb2 ⟨rfl, rfl, rfl⟩
  apply u_guard
  · exact GC.t _
  · intro hg; try simp only [hg, cnd_true]; try simp only [hg, cnd_true, Bool.true_and]
    refine o_ld_loc rfl th9 rfl hb2 rfl ⟨rfl, rfl, rfl⟩
  apply u_guard
  · exact GC.t _
  · intro hg; try simp only [hg, cnd_true]; try simp only [hg, cnd_true, Bool.true_and]
    refine o_bin_str rfl (show _ = SV.d (.str []) from rfl) rfl ⟨rfl, rfl, rfl⟩
  refine u_step (o_pick_and rfl rfl rfl ?_)
  refine u_step (o_move rfl ?_)
  apply u_guard
  · exact GC.t _
  · intro hg
    refine o_fa_loc rfl th27 rfl rfl th25 (by decide) hb2 ⟨rfl, rfl, rfl⟩
  apply u_guard
  · exact GC.t _
  · intro hg; try simp only [hg, cnd_true]; try simp only [hg, cnd_true, Bool.true_and]
    refine o_ld_loc rfl th25 rfl hb2 rfl ⟨rfl, rfl, rfl⟩
  apply u_guard
  · exact GC.t _
  · intro hg; try simp only [hg, cnd_true]; try simp only [hg, cnd_true, Bool.true_and]
    refine o_len_sl rfl th25 rfl ⟨rfl, rfl, rfl⟩
  apply u_guard
  · exact GC.t _
  · intro hg
    refine o_fa_loc rfl th27 rfl rfl th22 (by decide) hb2 ⟨rfl, rfl, rfl⟩
  apply u_guard
  · exact GC.t _
  · intro hg; try simp only [hg, cnd_true]; try simp only [hg, cnd_true, Bool.true_and]
    refine o_ld_loc rfl th22 rfl hb2 rfl ⟨rfl, rfl, rfl⟩
  apply u_guard
  · exact GC.t _
  · intro hg; try simp only [hg, cnd_true]; try simp only [hg, cnd_true, Bool.true_and]
    refine o_len_sl rfl th22 rfl ⟨rfl, rfl, rfl⟩
  apply u_guard
  · exact GC.t _
  · intro hg; try simp only [hg, cnd_true]; try simp only [hg, cnd_true, Bool.true_and]
    refine o_bin_int rfl rfl (by decide) rfl ⟨rfl, rfl, rfl⟩
  apply u_guard
  · exact GC.t _
  · intro hg; try simp only [hg, cnd_true]; try simp only [hg, cnd_true, Bool.true_and]
    refine o_bin_int rfl rfl (by decide) rfl ⟨rfl, rfl, rfl⟩
  refine u_step (o_pick_and rfl rfl rfl ?_)
  refine u_step (o_assign rfl ?_)
  refine u_nil ?_
  refine hK3 _ ?_
  refine WP.ret ?_
  refine ret_ok rfl ?_ (by omega) (fun t ht => (hk2 t (by omega)))
  -- ret 1
  clear hK1 hK3
  refine congrArg D.bool ?_
  rw [wrap_i64 (by rw [encVs_length, List.length_map]; omega) (by rw [encVs_length, List.length_map]; omega), Bool.eq_iff_iff]
  rw [none_mk]
  simp only [Bool.and_eq_true, beq_iff_eq, decide_eq_true_eq, encVs_length, List.length_map]
  rw [← List.length_eq_zero_iff (l := xs), ← List.length_eq_zero_iff (l := ns)]
  grind

theorem fn124 : FnOk Tryz.prog 124 26 [2] (bodyOf Tryz.f124) := ⟨Tryz.f124, Tryz.func124, by kernel_rfl, by decide, by kernel_rfl, by kernel_rfl⟩
theorem s124 (v : Val) (hsz : szV v ≤ 1099511627776) : PSpec Tryz.prog 124 [.d (encV v)] (.d (.bool (noneV v))) := by
  obtain ⟨kd, it, tx, xs, ns⟩ := v
  have hsz2 : 1 + tx.length + szVs xs + szN ns ≤ 1099511627776 := hsz
  have hxl := szVs_len xs
  have hnl := szN_len ns
  refine PSpec.of fn124 (by simp) fun o nk => ?_
  refine WP.seq fun K1 hK1 => ?_
  refine WP.reg tabOk rfl ?_
  refine u_step (g_box rfl fun o2 hb2 hk2 => ?_)
  refine u_step (o_assign rfl ?_)
  refine u_nil ?_
  refine hK1 _ ?_
  refine WP.seq fun K3 hK3 => ?_
  refine WP.reg tabOk rfl ?_
  refine u_step (o_fa_loc rfl th27 rfl rfl th3 (by decide) hb2 ?_)
  refine u_step (o_ld_loc rfl th3 rfl hb2 rfl ?_)
  refine u_step (o_bin_int rfl rfl (by decide) rfl ?_)
  refine u_step (o_move rfl ?_)
  apply u_guard
  · exact GC.t _
  · intro hg
    refine o_fa_loc rfl th27 rfl rfl th3 (by decide) hb2 ⟨rfl, rfl, rfl⟩
  apply u_guard
  · exact GC.t _
  · intro hg; try simp only [hg, cnd_true]; try simp only [hg, cnd_true, Bool.true_and]
    refine o_ld_loc rfl th3 rfl hb2 rfl ⟨rfl, rfl, rfl⟩
  apply u_guard
  · exact GC.t _
  · intro hg; try simp only [hg, cnd_true]; try simp only [hg, cnd_true, Bool.true_and]
    refine o_bin_int rfl rfl (by decide) rfl ⟨rfl, rfl, rfl⟩
  refine u_step (o_pick_and rfl rfl rfl ?_)
  refine u_step (o_move rfl ?_)
  apply u_guard
  · exact GC.t _
  · intro hg
    refine o_fa_loc rfl th27 rfl rfl th9 (by decide) hb2 ⟨rfl, rfl, rfl⟩
  apply u_guard
  · exact GC.t _
  · intro hg; try simp only [hg, cnd_true]; try simp only [hg, cnd_true, Bool.true_and]
    refine o_ld_loc rfl th9 rfl hb2 rfl ⟨rfl, rfl, rfl⟩
  apply u_guard
  · exact GC.t _
  · intro hg; try simp only [hg, cnd_true]; try simp only [hg, cnd_true, Bool.true_and]
    refine o_bin_str rfl (show _ = SV.d (.str []) from rfl) rfl ⟨rfl, rfl, rfl⟩
  refine u_step (o_pick_and rfl rfl rfl ?_)
  refine u_step (o_move rfl ?_)
  apply u_guard
  · exact GC.t _
  · intro hg
    refine o_fa_loc rfl th27 rfl rfl th25 (by decide) hb2 ⟨rfl, rfl, rfl⟩
  apply u_guard
  · exact GC.t _
  · intro hg; try simp only [hg, cnd_true]; try simp only [hg, cnd_true, Bool.true_and]
    refine o_ld_loc rfl th25 rfl hb2 rfl ⟨rfl, rfl, rfl⟩
  apply u_guard
  · exact GC.t _
  · intro hg; try simp only [hg, cnd_true]; try simp only [hg, cnd_true, Bool.true_and]
    refine o_len_sl rfl th25 rfl ⟨rfl, rfl, rfl⟩
  apply u_guard
  · exact GC.t _
  · intro hg
    refine o_fa_loc rfl th27 rfl rfl th22 (by decide) hb2 ⟨rfl, rfl, rfl⟩
  apply u_guard
  · exact GC.t _
  · intro hg; try simp only [hg, cnd_true]; try simp only [hg, cnd_true, Bool.true_and]
    refine o_ld_loc rfl th22 rfl hb2 rfl ⟨rfl, rfl, rfl⟩
  apply u_guard
  · exact GC.t _
  · intro hg; try simp only [hg, cnd_true]; try simp only [hg, cnd_true, Bool.true_and]
    refine o_len_sl rfl th22 rfl ⟨rfl, rfl, rfl⟩
  apply u_guard
  · exact GC.t _
  · intro hg; try simp only [hg, cnd_true]; try simp only [hg, cnd_true, Bool.true_and]
    refine o_bin_int rfl rfl (by decide) rfl ⟨rfl, rfl, rfl⟩
  apply u_guard
  · exact GC.t _
  · intro hg; try simp only [hg, cnd_true]; try simp only [hg, cnd_true, Bool.true_and]
    refine o_bin_int rfl rfl (by decide) rfl ⟨rfl, rfl, rfl⟩
  refine u_step (o_pick_and rfl rfl rfl ?_)
  refine u_step (o_assign rfl ?_)
  refine u_nil ?_
  refine hK3 _ ?_
  refine WP.ret ?_
  refine ret_ok rfl ?_ (by omega) (fun t ht => (hk2 t (by omega)))
  -- ret 1
  clear hK1 hK3
  refine congrArg D.bool ?_
  rw [wrap_i64 (by rw [encVs_length, List.length_map]; omega) (by rw [encVs_length, List.length_map]; omega), Bool.eq_iff_iff]
  rw [none_mk]
  simp only [Bool.and_eq_true, beq_iff_eq, decide_eq_true_eq, encVs_length, List.length_map]
  rw [← List.length_eq_zero_iff (l := xs), ← List.length_eq_zero_iff (l := ns)]
  grind

end Go.Proofs.YtpkcbdhjnnnkbaaGreat.Abs

set_option linter.unusedVariables false
set_option linter.unusedSimpArgs false
set_option maxRecDepth 10000
namespace Go.Proofs.YtpkcbdhjnnnkbaaGreat.Abs
open Go

theorem fn30 : FnOk Tryz.prog 30 81 [4] (bodyOf Tryz.f30) := ⟨Tryz.f30, Tryz.func30, by kernel_rfl, by decide, by kernel_rfl, by kernel_rfl⟩
theorem s30A (m : Nat) : ∀ (v w : Val), SizeOf.sizeOf v < m → PSpec Tryz.prog 30 [.d (encV v), .d (encV w)] (.d (.bool (sameV v w))) := by
  induction m with
  | zero => intros; omega
  | succ m ih =>
    rintro ⟨kd, it, tx, xs, ns⟩ ⟨kd2, it2, tx2, ys, ms⟩ hv
    refine PSpec.bd fun hbd => ?_
    have hx : xs.length ≤ 9223372036854775807 := by simpa [encVs_length] using hbd.1.2.2.2.1.1
    have hx2 : ns.length ≤ 9223372036854775807 := by simpa using hbd.1.2.2.2.2.1.1
    refine PSpec.of fn30 (by simp) fun o nk => ?_
    refine WP.seq fun K1 hK1 => ?_
    refine WP.reg tabOk rfl ?_
    refine u_step (g_box rfl fun o2 hb2 hk2 => ?_)
    refine u_step (g_box rfl fun o3 hb3 hk3 => ?_)
    have hb2_3 := (hk3 _ (by omega)).trans hb2
    refine u_step (o_assign rfl ?_)
    refine u_nil ?_
    refine hK1 _ ?_
    refine WP.seq fun K4 hK4 => ?_
    refine WP.seq fun K5 hK5 => ?_
    refine WP.reg tabOk rfl ?_
    refine u_step (o_fa_loc rfl th27 rfl rfl th3 (by decide) hb2_3 ?_)
    refine u_step (o_ld_loc rfl th3 rfl hb2_3 rfl ?_)
    refine u_step (o_fa_loc rfl th27 rfl rfl th3 (by decide) hb3 ?_)
    refine u_step (o_ld_loc rfl th3 rfl hb3 rfl ?_)
    refine u_step (o_bin_int rfl rfl (by decide) rfl ?_)
    refine u_step (o_move rfl ?_)
    apply u_guard
    · exact GC.f _
    · intro hg
      refine o_fa_loc rfl th27 rfl rfl th3 (by decide) hb2_3 ⟨rfl, rfl, rfl⟩
    apply u_guard
    · exact GC.f _
    · intro hg; try simp only [hg, cnd_true]; try simp only [hg, cnd_true, Bool.true_and]
      refine o_ld_loc rfl th3 rfl hb2_3 rfl ⟨rfl, rfl, rfl⟩
    apply u_guard
    · exact GC.f _
    · intro hg
      refine o_fa_loc rfl th27 rfl rfl th3 (by decide) hb3 ⟨rfl, rfl, rfl⟩
    apply u_guard
    · exact GC.f _
    · intro hg; try simp only [hg, cnd_true]; try simp only [hg, cnd_true, Bool.true_and]
      refine o_ld_loc rfl th3 rfl hb3 rfl ⟨rfl, rfl, rfl⟩
    apply u_guard
    · exact GC.f _
    · intro hg; try simp only [hg, cnd_true]; try simp only [hg, cnd_true, Bool.true_and]
      refine o_bin_int rfl rfl (by decide) rfl ⟨rfl, rfl, rfl⟩
    refine u_step (o_pick_or rfl rfl rfl ?_)
    refine u_step (o_move rfl ?_)
    apply u_guard
    · exact GC.f _
    · intro hg
      refine o_fa_loc rfl th27 rfl rfl th9 (by decide) hb2_3 ⟨rfl, rfl, rfl⟩
    apply u_guard
    · exact GC.f _
    · intro hg; try simp only [hg, cnd_true]; try simp only [hg, cnd_true, Bool.true_and]
      refine o_ld_loc rfl th9 rfl hb2_3 rfl ⟨rfl, rfl, rfl⟩
    apply u_guard
    · exact GC.f _
    · intro hg
      refine o_fa_loc rfl th27 rfl rfl th9 (by decide) hb3 ⟨rfl, rfl, rfl⟩
    apply u_guard
    · exact GC.f _
    · intro hg; try simp only [hg, cnd_true]; try simp only [hg, cnd_true, Bool.true_and]
      refine o_ld_loc rfl th9 rfl hb3 rfl ⟨rfl, rfl, rfl⟩
    apply u_guard
    · exact GC.f _
    · intro hg; try simp only [hg, cnd_true]; try simp only [hg, cnd_true, Bool.true_and]
      refine o_bin_str rfl rfl rfl ⟨rfl, rfl, rfl⟩
    refine u_step (o_pick_or rfl rfl rfl ?_)
    refine u_step (o_move rfl ?_)
    apply u_guard
    · exact GC.f _
    · intro hg
      refine o_fa_loc rfl th27 rfl rfl th25 (by decide) hb2_3 ⟨rfl, rfl, rfl⟩
    apply u_guard
    · exact GC.f _
    · intro hg; try simp only [hg, cnd_true]; try simp only [hg, cnd_true, Bool.true_and]
      refine o_ld_loc rfl th25 rfl hb2_3 rfl ⟨rfl, rfl, rfl⟩
    apply u_guard
    · exact GC.f _
    · intro hg; try simp only [hg, cnd_true]; try simp only [hg, cnd_true, Bool.true_and]
      refine o_len_sl rfl th25 rfl ⟨rfl, rfl, rfl⟩
    apply u_guard
    · exact GC.f _
    · intro hg
      refine o_fa_loc rfl th27 rfl rfl th25 (by decide) hb3 ⟨rfl, rfl, rfl⟩
    apply u_guard
    · exact GC.f _
    · intro hg; try simp only [hg, cnd_true]; try simp only [hg, cnd_true, Bool.true_and]
      refine o_ld_loc rfl th25 rfl hb3 rfl ⟨rfl, rfl, rfl⟩
    apply u_guard
    · exact GC.f _
    · intro hg; try simp only [hg, cnd_true]; try simp only [hg, cnd_true, Bool.true_and]
      refine o_len_sl rfl th25 rfl ⟨rfl, rfl, rfl⟩
    apply u_guard
    · exact GC.f _
    · intro hg; try simp only [hg, cnd_true]; try simp only [hg, cnd_true, Bool.true_and]
      refine o_bin_int rfl rfl (by decide) rfl ⟨rfl, rfl, rfl⟩
    refine u_step (o_pick_or rfl rfl rfl ?_)
    refine u_step (o_move rfl ?_)
    apply u_guard
    · exact GC.f _
    · intro hg
      refine o_fa_loc rfl th27 rfl rfl th22 (by decide) hb2_3 ⟨rfl, rfl, rfl⟩
    apply u_guard
    · exact GC.f _
    · intro hg; try simp only [hg, cnd_true]; try simp only [hg, cnd_true, Bool.true_and]
      refine o_ld_loc rfl th22 rfl hb2_3 rfl ⟨rfl, rfl, rfl⟩
    apply u_guard
    · exact GC.f _
    · intro hg; try simp only [hg, cnd_true]; try simp only [hg, cnd_true, Bool.true_and]
      refine o_len_sl rfl th22 rfl ⟨rfl, rfl, rfl⟩
    apply u_guard
    · exact GC.f _
    · intro hg
      refine o_fa_loc rfl th27 rfl rfl th22 (by decide) hb3 ⟨rfl, rfl, rfl⟩
    apply u_guard
    · exact GC.f _
    · intro hg; try simp only [hg, cnd_true]; try simp only [hg, cnd_true, Bool.true_and]
      refine o_ld_loc rfl th22 rfl hb3 rfl ⟨rfl, rfl, rfl⟩
    apply u_guard
    · exact GC.f _
    · intro hg; try simp only [hg, cnd_true]; try simp only [hg, cnd_true, Bool.true_and]
      refine o_len_sl rfl th22 rfl ⟨rfl, rfl, rfl⟩
    apply u_guard
    · exact GC.f _
    · intro hg; try simp only [hg, cnd_true]; try simp only [hg, cnd_true, Bool.true_and]
      refine o_bin_int rfl rfl (by decide) rfl ⟨rfl, rfl, rfl⟩
    refine u_step (o_pick_or rfl rfl rfl ?_)
    refine u_nil ?_
    refine hK5 _ ?_
    refine WP.cond rfl (fun hc6 => ?_) (fun hc6 => ?_)
    ·
      try simp only [Q0, Q1, Q2, Q3, Q4, Q5, Q6, Q7, Q8, ge_iff_le, gt_iff_lt] at hc6
      refine WP.seq fun K7 hK7 => ?_
      refine WP.reg tabOk rfl ?_
      refine u_step (o_assign rfl ?_)
      refine u_nil ?_
      refine hK7 _ ?_
      refine WP.ret ?_
      refine ret_ok rfl ?_ (by omega) (fun t ht => (hk3 t (by omega)).trans ((hk2 t (by omega))))
      -- ret 1
      clear hK1 hK4 hK5 hK7
      refine congrArg D.bool (same_ne ?_).symm
      intro e
      simp only [Val.mk.injEq] at e
      obtain ⟨rfl, rfl, rfl, rfl, rfl⟩ := e
      simp at hc6
    ·
      try simp only [Q0, Q1, Q2, Q3, Q4, Q5, Q6, Q7, Q8, ge_iff_le, gt_iff_lt] at hc6
      have hq := hc6
      simp [encVs_length] at hq
      obtain ⟨⟨⟨⟨q1, q2⟩, q3⟩, q4⟩, q5⟩ := hq
      refine WP.skip ?_
      refine hK4 _ ?_
      refine WP.seq fun K8 hK8 => ?_
      refine WP.seq fun K9 hK9 => ?_
      refine WP.reg tabOk rfl ?_
      refine u_step (o_assign rfl ?_)
      refine u_nil ?_
      refine hK9 _ ?_
      refine WP.block ?_
      refine WP.loopL (ι := Nat) (fun i => ⟨al [(2, .loc nk 0), (3, .loc (nk + 1) 0), (5, .d (.int .i64 i))], o3, ((nk + 1) + 1)⟩) (fun i => i ≤ xs.length ∧ ∀ (j : Nat) (hj : j < xs.length) (hk : j < ys.length), j < i → xs[j] = ys[j]) (fun i => xs.length - i) (fun i hA => ?_) 0 ?_ ?_
      ·
        obtain ⟨hle_i, hin_i⟩ := hA
        refine WP.seq fun K10 hK10 => ?_
        refine WP.seq fun K11 hK11 => ?_
        refine WP.reg tabOk rfl ?_
        refine u_step (o_move rfl ?_)
        refine u_step (o_fa_loc rfl th27 rfl rfl th25 (by decide) hb2_3 ?_)
        refine u_step (o_ld_loc rfl th25 rfl hb2_3 rfl ?_)
        refine u_step (o_len_sl rfl th25 rfl ?_)
        refine u_step (o_bin_int rfl rfl (by decide) rfl ?_)
        refine u_nil ?_
        refine hK11 _ ?_
        refine WP.cond rfl (fun hc12 => ?_) (fun hc12 => ?_)
        ·
          try simp only [Q0, Q1, Q2, Q3, Q4, Q5, Q6, Q7, Q8, ge_iff_le, gt_iff_lt] at hc12
          refine WP.skip ?_
          refine hK10 _ ?_
          refine WP.seq fun K13 hK13 => ?_
          refine WP.block ?_
          refine WP.seq fun K14 hK14 => ?_
          refine WP.drw tabOk (by kernel_rfl) rfl (by kernel_rfl) ?_
          refine d_step (o_fa_loc rfl th27 rfl rfl th25 (by decide) hb2_3 ⟨rfl, rfl, rfl⟩) ?_
          refine d_step (o_ld_loc rfl th25 rfl hb2_3 rfl ⟨rfl, rfl, rfl⟩) ?_
          refine d_step (o_move rfl ⟨rfl, rfl, rfl⟩) ?_
          first | refine d_step (o_ia_map rfl rfl th25 rfl th27 rfl (by omega) ⟨rfl, rfl, rfl⟩) ?_ | refine d_step (o_ia_vs rfl rfl th25 rfl th27 rfl (by omega) ⟨rfl, rfl, rfl⟩) ?_
          refine d_step (o_ld_el rfl th27 (by first | rfl | simp only [encV_leaf, encV_width, Bool.not_true, TK.agg]) (by first | rfl | simp only [encV_leaf, encV_width, Bool.not_true, TK.agg]) ⟨rfl, rfl, rfl⟩) ?_
          refine d_step (o_fa_loc rfl th27 rfl rfl th25 (by decide) hb3 ⟨rfl, rfl, rfl⟩) ?_
          refine d_step (o_ld_loc rfl th25 rfl hb3 rfl ⟨rfl, rfl, rfl⟩) ?_
          refine d_step (o_move rfl ⟨rfl, rfl, rfl⟩) ?_
          first | refine d_step (o_ia_map rfl rfl th25 rfl th27 rfl (by omega) ⟨rfl, rfl, rfl⟩) ?_ | refine d_step (o_ia_vs rfl rfl th25 rfl th27 rfl (by omega) ⟨rfl, rfl, rfl⟩) ?_
          refine d_step (o_ld_el rfl th27 (by first | rfl | simp only [encV_leaf, encV_width, Bool.not_true, TK.agg]) (by first | rfl | simp only [encV_leaf, encV_width, Bool.not_true, TK.agg]) ⟨rfl, rfl, rfl⟩) ?_
          refine d_step (o_pcall (ih _ _ (by exact items_lt' (by omega) hv)) rfl ⟨rfl, rfl, rfl⟩) ?_
          refine d_step (o_not rfl ⟨rfl, rfl, rfl⟩) ?_
          refine d_nil ?_
          refine hK14 _ ?_
          refine WP.cond rfl (fun hc15 => ?_) (fun hc15 => ?_)
          ·
            try simp only [Q0, Q1, Q2, Q3, Q4, Q5, Q6, Q7, Q8, ge_iff_le, gt_iff_lt] at hc15
            refine WP.seq fun K16 hK16 => ?_
            refine WP.reg tabOk rfl ?_
            refine u_step (o_assign rfl ?_)
            refine u_nil ?_
            refine hK16 _ ?_
            refine WP.ret ?_
            refine ret_ok rfl ?_ (by omega) (fun t ht => (hk3 t (by omega)).trans ((hk2 t (by omega))))
            -- ret 2
            clear hK1 hK4 hK5 hK8 hK9 hK10 hK11 hK13 hK14 hK16
            refine congrArg D.bool (same_ne ?_).symm
            intro e
            simp only [Val.mk.injEq] at e
            obtain ⟨rfl, rfl, rfl, rfl, rfl⟩ := e
            rw [same_refl] at hc15; cases hc15
          ·
            try simp only [Q0, Q1, Q2, Q3, Q4, Q5, Q6, Q7, Q8, ge_iff_le, gt_iff_lt] at hc15
            refine WP.skip ?_
            refine hK13 _ ?_
            refine WP.reg tabOk rfl ?_
            refine u_step (o_move rfl ?_)
            refine u_step (o_bin_int rfl rfl (by decide) rfl ?_)
            refine u_step (o_assign rfl ?_)
            refine u_nil ?_
            -- back
            refine ⟨i + 1, ⟨by omega, ?_⟩, by omega, ?_⟩
            · intro j hj hk h1
              by_cases h2 : j = i
              · subst h2; exact same_eq.1 (by simpa using hc15)
              · exact hin_i j hj hk (by omega)
            · refine Le.al ?_
              simp only [List.forall_mem_cons]
              exact ⟨rfl, rfl, cnt (by omega), by simp⟩
        ·
          try simp only [Q0, Q1, Q2, Q3, Q4, Q5, Q6, Q7, Q8, ge_iff_le, gt_iff_lt] at hc12
          refine WP.exit ?_
          refine hK8 _ ?_
          refine WP.seq fun K17 hK17 => ?_
          refine WP.seq fun K18 hK18 => ?_
          refine WP.reg tabOk rfl ?_
          refine u_step (o_assign rfl ?_)
          refine u_nil ?_
          refine hK18 _ ?_
          refine WP.block ?_
          refine WP.loopL (ι := Nat) (fun j => ⟨al [(2, .loc nk 0), (3, .loc (nk + 1) 0), (6, .d (.int .i64 j))], o3, ((nk + 1) + 1)⟩) (fun j => j ≤ ns.length ∧ ∀ (a : Nat) (hj : a < ns.length) (hk : a < ms.length), a < j → ns[a] = ms[a]) (fun j => ns.length - j) (fun j hA => ?_) 0 ?_ ?_
          ·
            obtain ⟨hle_j, hin_j⟩ := hA
            refine WP.seq fun K19 hK19 => ?_
            refine WP.seq fun K20 hK20 => ?_
            refine WP.reg tabOk rfl ?_
            refine u_step (o_move rfl ?_)
            refine u_step (o_fa_loc rfl th27 rfl rfl th22 (by decide) hb2_3 ?_)
            refine u_step (o_ld_loc rfl th22 rfl hb2_3 rfl ?_)
            refine u_step (o_len_sl rfl th22 rfl ?_)
            refine u_step (o_bin_int rfl rfl (by decide) rfl ?_)
            refine u_nil ?_
            refine hK20 _ ?_
            refine WP.cond rfl (fun hc21 => ?_) (fun hc21 => ?_)
            ·
              try simp only [Q0, Q1, Q2, Q3, Q4, Q5, Q6, Q7, Q8, ge_iff_le, gt_iff_lt] at hc21
              refine WP.skip ?_
              refine hK19 _ ?_
              refine WP.seq fun K22 hK22 => ?_
              refine WP.block ?_
              refine WP.seq fun K23 hK23 => ?_
              refine WP.drw tabOk (by kernel_rfl) rfl (by kernel_rfl) ?_
              refine d_step (o_fa_loc rfl th27 rfl rfl th22 (by decide) hb2_3 ⟨rfl, rfl, rfl⟩) ?_
              refine d_step (o_ld_loc rfl th22 rfl hb2_3 rfl ⟨rfl, rfl, rfl⟩) ?_
              refine d_step (o_move rfl ⟨rfl, rfl, rfl⟩) ?_
              first | refine d_step (o_ia_map rfl rfl th22 rfl th9 rfl (by omega) ⟨rfl, rfl, rfl⟩) ?_ | refine d_step (o_ia_vs rfl rfl th22 rfl th9 rfl (by omega) ⟨rfl, rfl, rfl⟩) ?_
              refine d_step (o_ld_el rfl th9 (by first | rfl | simp only [encV_leaf, encV_width, Bool.not_true, TK.agg]) (by first | rfl | simp only [encV_leaf, encV_width, Bool.not_true, TK.agg]) ⟨rfl, rfl, rfl⟩) ?_
              refine d_step (o_fa_loc rfl th27 rfl rfl th22 (by decide) hb3 ⟨rfl, rfl, rfl⟩) ?_
              refine d_step (o_ld_loc rfl th22 rfl hb3 rfl ⟨rfl, rfl, rfl⟩) ?_
              refine d_step (o_move rfl ⟨rfl, rfl, rfl⟩) ?_
              first | refine d_step (o_ia_map rfl rfl th22 rfl th9 rfl (by omega) ⟨rfl, rfl, rfl⟩) ?_ | refine d_step (o_ia_vs rfl rfl th22 rfl th9 rfl (by omega) ⟨rfl, rfl, rfl⟩) ?_
              refine d_step (o_ld_el rfl th9 (by first | rfl | simp only [encV_leaf, encV_width, Bool.not_true, TK.agg]) (by first | rfl | simp only [encV_leaf, encV_width, Bool.not_true, TK.agg]) ⟨rfl, rfl, rfl⟩) ?_
              refine d_step (o_bin_str rfl rfl rfl ⟨rfl, rfl, rfl⟩) ?_
              refine d_nil ?_
              refine hK23 _ ?_
              refine WP.cond rfl (fun hc24 => ?_) (fun hc24 => ?_)
              ·
                try simp only [Q0, Q1, Q2, Q3, Q4, Q5, Q6, Q7, Q8, ge_iff_le, gt_iff_lt] at hc24
                refine WP.seq fun K25 hK25 => ?_
                refine WP.reg tabOk rfl ?_
                refine u_step (o_assign rfl ?_)
                refine u_nil ?_
                refine hK25 _ ?_
                refine WP.ret ?_
                refine ret_ok rfl ?_ (by omega) (fun t ht => (hk3 t (by omega)).trans ((hk2 t (by omega))))
                -- ret 3
                clear hK1 hK4 hK5 hK8 hK9 hK10 hK11 hK17 hK18 hK19 hK20 hK22 hK23 hK25
                refine congrArg D.bool (same_ne ?_).symm
                intro e
                simp only [Val.mk.injEq] at e
                obtain ⟨rfl, rfl, rfl, rfl, rfl⟩ := e
                simp at hc24
              ·
                try simp only [Q0, Q1, Q2, Q3, Q4, Q5, Q6, Q7, Q8, ge_iff_le, gt_iff_lt] at hc24
                refine WP.skip ?_
                refine hK22 _ ?_
                refine WP.reg tabOk rfl ?_
                refine u_step (o_move rfl ?_)
                refine u_step (o_bin_int rfl rfl (by decide) rfl ?_)
                refine u_step (o_assign rfl ?_)
                refine u_nil ?_
                -- back
                refine ⟨j + 1, ⟨by omega, ?_⟩, by omega, ?_⟩
                · intro a ha hk h1
                  by_cases h2 : a = j
                  · subst h2; simpa using hc24
                  · exact hin_j a ha hk (by omega)
                · refine Le.al ?_
                  simp only [List.forall_mem_cons]
                  exact ⟨rfl, rfl, cnt (by omega), by simp⟩
            ·
              try simp only [Q0, Q1, Q2, Q3, Q4, Q5, Q6, Q7, Q8, ge_iff_le, gt_iff_lt] at hc21
              refine WP.exit ?_
              refine hK17 _ ?_
              refine WP.seq fun K26 hK26 => ?_
              refine WP.reg tabOk rfl ?_
              refine u_step (o_assign rfl ?_)
              refine u_nil ?_
              refine hK26 _ ?_
              refine WP.ret ?_
              refine ret_ok rfl ?_ (by omega) (fun t ht => (hk3 t (by omega)).trans ((hk2 t (by omega))))
              -- ret 4
              have e1 : xs = ys := List.ext_getElem (by omega) fun j h1 h2 => hin_i j h1 h2 (by omega)
              have e2 : ns = ms := List.ext_getElem (by omega) fun j h1 h2 => hin_j j h1 h2 (by omega)
              rw [q1, q2, q3, e1, e2, same_refl]
          ·
            simp
          ·
            refine Le.al ?_
            simp only [List.forall_mem_cons]
            exact ⟨rfl, rfl, rfl, by simp⟩
      ·
        simp
      ·
        refine Le.al ?_
        simp only [List.forall_mem_cons]
        exact ⟨rfl, rfl, rfl, by simp⟩
theorem s30 (v w : Val) : PSpec Tryz.prog 30 [.d (encV v), .d (encV w)] (.d (.bool (sameV v w))) := s30A _ v w (Nat.lt_succ_self _)

theorem fn65 : FnOk Tryz.prog 65 6 [2] (bodyOf Tryz.f65) := ⟨Tryz.f65, Tryz.func65, by kernel_rfl, by decide, by kernel_rfl, by kernel_rfl⟩
theorem s65 (v : Val) : PSpec Tryz.prog 65 [.d (encV v)] (.d (.bool (noneV v))) := by
  obtain ⟨kd, it, tx, xs, ns⟩ := v
  refine PSpec.of fn65 (by simp) fun o nk => ?_
  refine WP.seq fun K1 hK1 => ?_
  refine WP.reg tabOk rfl ?_
  refine u_step (g_box rfl fun o2 hb2 hk2 => ?_)
  refine u_step (o_assign rfl ?_)
  refine u_nil ?_
  refine hK1 _ ?_
  refine WP.seq fun K3 hK3 => ?_
  refine WP.reg tabOk rfl ?_
  refine u_step (o_ld_agg rfl th27 rfl hb2 rfl rfl rfl ?_)
  refine u_step (o_bu rfl th27 rfl rfl ?_)
  refine u_step (o_pcall (PSpec.le (s30 (.mk kd it tx xs ns) (.mk 0 0 [] [] [])) (by refine ⟨D.le_refl _, ?_, trivial⟩; show D.le (.agg [.int .i64 0, .int .i64 0, .str [], .nil, .nil]) (encV (.mk 0 0 [] [] [])); simp [D.le, D.les, encV, encVs])) rfl ?_)
  refine u_step (o_assign rfl ?_)
  refine u_nil ?_
  refine hK3 _ ?_
  refine WP.ret ?_
  refine ret_ok rfl ?_ (by omega) (fun t ht => (hk2 t (by omega)))
  -- ret 1
  rw [none_same]

end Go.Proofs.YtpkcbdhjnnnkbaaGreat.Abs

set_option linter.unusedVariables false
set_option linter.unusedSimpArgs false
set_option maxRecDepth 10000
namespace Go.Proofs.YtpkcbdhjnnnkbaaGreat.Abs
open Go
theorem o_ia_mapG {P : Program} {Θ : Tab} {K : SV → (Nat → Option AO) → Nat → Prop} {sl : Nat → SV} {o : Nat → Option AO} {nk : Nat} {x ix : Operand} {t e : Nat} {α : Type} {i j : TI} {z : Nat} {xs : List α} {g : α → D} {k : IntKind} {m : Nat} (d0 : α) (hx : ev sl x = .d (.sl z (xs.map g))) (hy : ev sl ix = .d (.int k (m : Int))) (hi : Θ t = some i) (hk : i.k = .slice e) (hj : Θ e = some j) (hz : z = j.sz) (hlt : m < xs.length) (h : K (.el (g (xs.getD m d0))) o nk) : vOp P Θ (.indexAddr t x ix) ⟨sl, o, nk⟩ K := by
  have hg : xs.getD m d0 = xs[m]'hlt := by simp [hlt]
  rw [hg] at h
  exact o_ia_map hx hy hi hk hj hz hlt h
theorem begins_yes {a b : List Str} (hl : a.length ≤ b.length) (h : ∀ (j : Nat) (hj : j < a.length) (hk : j < b.length), a[j] = b[j]) : beginsV a b = true := by
  unfold beginsV
  rw [decide_eq_true_eq, List.prefix_iff_eq_take]
  refine List.ext_getElem (by simp; omega) fun j h1 h2 => ?_
  rw [List.getElem_take]
  exact h j h1 (by omega)
theorem begins_no {a b : List Str} {i : Nat} (h : i < a.length) (hb : b.length ≤ i ∨ ∃ hk : i < b.length, a[i] ≠ b[i]) : beginsV a b = false := by
  unfold beginsV
  rw [decide_eq_false_iff_not]
  intro hp
  have hl := hp.length_le
  rcases hb with hb | ⟨hk, hb⟩
  · omega
  · exact hb (hp.getElem h)

theorem fn63 : FnOk Tryz.prog 63 27 [4] (bodyOf Tryz.f63) := ⟨Tryz.f63, Tryz.func63, by kernel_rfl, by decide, by kernel_rfl, by kernel_rfl⟩
theorem s63 (a b : List Str) : PSpec Tryz.prog 63 [.d (.sl 1 (a.map .str)), .d (.sl 1 (b.map .str))] (.d (.bool (beginsV a b))) := by
  refine PSpec.bd fun hbd => ?_
  have hx : a.length ≤ 9223372036854775807 := by simpa using hbd.1.1
  refine PSpec.of fn63 (by simp) fun o nk => ?_
  refine WP.seq fun K1 hK1 => ?_
  refine WP.reg tabOk rfl ?_
  refine u_step (o_assign rfl ?_)
  refine u_nil ?_
  refine hK1 _ ?_
  refine WP.seq fun K2 hK2 => ?_
  refine WP.seq fun K3 hK3 => ?_
  refine WP.reg tabOk rfl ?_
  refine u_step (o_assign rfl ?_)
  refine u_nil ?_
  refine hK3 _ ?_
  refine WP.block ?_
  refine WP.loopL (ι := Nat) (fun i => ⟨al [(0, .d (.sl 1 (a.map .str))), (1, .d (.sl 1 (b.map .str))), (5, .d (.int .i64 i))], o, nk⟩) (fun i => i ≤ a.length ∧ i ≤ b.length ∧ ∀ (j : Nat) (hj : j < a.length) (hk : j < b.length), j < i → a[j] = b[j]) (fun i => a.length - i) (fun i hA => ?_) 0 ?_ ?_
  ·
    obtain ⟨hle_i, hin_i⟩ := hA
    refine WP.seq fun K4 hK4 => ?_
    refine WP.seq fun K5 hK5 => ?_
    refine WP.reg tabOk rfl ?_
    refine u_step (o_move rfl ?_)
    refine u_step (o_move rfl ?_)
    refine u_step (o_len_sl rfl th22 rfl ?_)
    refine u_step (o_bin_int rfl rfl (by decide) rfl ?_)
    refine u_nil ?_
    refine hK5 _ ?_
    refine WP.cond rfl (fun hc6 => ?_) (fun hc6 => ?_)
    ·
      try simp only [Q0, Q1, Q2, Q3, Q4, Q5, Q6, Q7, Q8, ge_iff_le, gt_iff_lt] at hc6
      refine WP.skip ?_
      refine hK4 _ ?_
      refine WP.seq fun K7 hK7 => ?_
      refine WP.block ?_
      refine WP.seq fun K8 hK8 => ?_
      refine WP.drw tabOk (by kernel_rfl) rfl (by kernel_rfl) ?_
      refine d_step (o_move rfl ⟨rfl, rfl, rfl⟩) ?_
      refine d_step (o_move rfl ⟨rfl, rfl, rfl⟩) ?_
      refine d_step (o_len_sl rfl th22 rfl ⟨rfl, rfl, rfl⟩) ?_
      refine d_step (o_bin_int rfl rfl (by decide) rfl ⟨rfl, rfl, rfl⟩) ?_
      refine d_step (o_move rfl ⟨rfl, rfl, rfl⟩) ?_
      apply d_guard
      · exact GC.f _
      · intro hg
        refine o_move rfl ⟨rfl, rfl, rfl⟩
      apply d_guard
      · exact GC.f _
      · intro hg
        refine o_move rfl ⟨rfl, rfl, rfl⟩
      apply d_guard
      · exact GC.f _
      · intro hg; try simp only [hg, cnd_true]; try simp only [hg, cnd_true, Bool.true_and]
        have hg2 := hg; try simp only [Q0, Q1, Q2, Q3, Q4, Q5, Q6, Q9, Qa, Qb, Qc, Qd] at hg2
        first | refine o_ia_map rfl rfl th22 rfl th9 rfl (by omega) ⟨rfl, rfl, rfl⟩ | refine o_ia_vs rfl rfl th22 rfl th9 rfl (by omega) ⟨rfl, rfl, rfl⟩
      apply d_guard
      · exact GC.f _
      · intro hg; try simp only [hg, cnd_true]; try simp only [hg, cnd_true, Bool.true_and]
        refine o_ld_el rfl th9 rfl rfl ⟨rfl, rfl, rfl⟩
      apply d_guard
      · exact GC.f _
      · intro hg
        refine o_move rfl ⟨rfl, rfl, rfl⟩
      apply d_guard
      · exact GC.f _
      · intro hg
        refine o_move rfl ⟨rfl, rfl, rfl⟩
      apply d_guard
      · exact GC.f _
      · intro hg; try simp only [hg, cnd_true]; try simp only [hg, cnd_true, Bool.true_and]
        have hg2 := hg; try simp only [Q0, Q1, Q2, Q3, Q4, Q5, Q6, Q9, Qa, Qb, Qc, Qd] at hg2
        refine o_ia_mapG (xs := b) ([] : Str) rfl rfl th22 rfl th9 rfl (by omega) ⟨rfl, rfl, rfl⟩
      apply d_guard
      · exact GC.f _
      · intro hg; try simp only [hg, cnd_true]; try simp only [hg, cnd_true, Bool.true_and]
        refine o_ld_el rfl th9 rfl rfl ⟨rfl, rfl, rfl⟩
      apply d_guard
      · exact GC.f _
      · intro hg; try simp only [hg, cnd_true]; try simp only [hg, cnd_true, Bool.true_and]
        refine o_bin_str rfl rfl rfl ⟨rfl, rfl, rfl⟩
      refine d_step (o_pick_or rfl rfl rfl ⟨rfl, rfl, rfl⟩) ?_
      refine d_nil ?_
      refine hK8 _ ?_
      refine WP.cond rfl (fun hc9 => ?_) (fun hc9 => ?_)
      ·
        try simp only [Q0, Q1, Q2, Q3, Q4, Q5, Q6, Q7, Q8, ge_iff_le, gt_iff_lt] at hc9
        refine WP.seq fun K10 hK10 => ?_
        refine WP.reg tabOk rfl ?_
        refine u_step (o_assign rfl ?_)
        refine u_nil ?_
        refine hK10 _ ?_
        refine WP.ret ?_
        refine ret_ok rfl ?_ (by omega) (fun _ _ => rfl)
        -- ret 1
        rw [begins_no (by omega) ?_]
        by_cases hb : b.length ≤ i
        · exact .inl hb
        · have hk : i < b.length := by omega
          exact .inr ⟨hk, by simpa [hb, hk] using hc9⟩
      ·
        try simp only [Q0, Q1, Q2, Q3, Q4, Q5, Q6, Q7, Q8, ge_iff_le, gt_iff_lt] at hc9
        refine WP.skip ?_
        refine hK7 _ ?_
        refine WP.reg tabOk rfl ?_
        refine u_step (o_move rfl ?_)
        refine u_step (o_bin_int rfl rfl (by decide) rfl ?_)
        refine u_step (o_assign rfl ?_)
        refine u_nil ?_
        -- back
        refine ⟨i + 1, ⟨by omega, ?_⟩, by omega, ?_⟩
        · have hq := Bool.or_eq_false_iff.1 hc9
          have hq1 : ¬ b.length ≤ i := by simpa using hq.1
          refine ⟨by omega, fun j hj hk h1 => ?_⟩
          by_cases h2 : j = i
          · subst h2; simpa [hk] using hq.2
          · exact hin_i.2 j hj hk (by omega)
        · refine Le.al ?_
          simp only [List.forall_mem_cons]
          exact ⟨rfl, rfl, cnt (by omega), by simp⟩
    ·
      try simp only [Q0, Q1, Q2, Q3, Q4, Q5, Q6, Q7, Q8, ge_iff_le, gt_iff_lt] at hc6
      refine WP.exit ?_
      refine hK2 _ ?_
      refine WP.seq fun K11 hK11 => ?_
      refine WP.reg tabOk rfl ?_
      refine u_step (o_assign rfl ?_)
      refine u_nil ?_
      refine hK11 _ ?_
      refine WP.ret ?_
      refine ret_ok rfl ?_ (by omega) (fun _ _ => rfl)
      -- ret 2
      rw [begins_yes (by omega) fun j hj hk => hin_i.2 j hj hk (by omega)]
  ·
    simp
  ·
    refine Le.al ?_
    simp only [List.forall_mem_cons]
    exact ⟨rfl, rfl, rfl, by simp⟩

theorem fn157 : FnOk Tryz.prog 157 26 [4] (bodyOf Tryz.f157) := ⟨Tryz.f157, Tryz.func157, by kernel_rfl, by decide, by kernel_rfl, by kernel_rfl⟩
theorem s157 (a b : List Str) : PSpec Tryz.prog 157 [.d (.sl 1 (a.map .str)), .d (.sl 1 (b.map .str))] (.d (.bool (decide (a = b)))) := by
  refine PSpec.bd fun hbd => ?_
  have hx : a.length ≤ 9223372036854775807 := by simpa using hbd.1.1
  refine PSpec.of fn157 (by simp) fun o nk => ?_
  refine WP.seq fun K1 hK1 => ?_
  refine WP.reg tabOk rfl ?_
  refine u_step (o_assign rfl ?_)
  refine u_nil ?_
  refine hK1 _ ?_
  refine WP.seq fun K2 hK2 => ?_
  refine WP.seq fun K3 hK3 => ?_
  refine WP.reg tabOk rfl ?_
  refine u_step (o_move rfl ?_)
  refine u_step (o_len_sl rfl th22 rfl ?_)
  refine u_step (o_move rfl ?_)
  refine u_step (o_len_sl rfl th22 rfl ?_)
  refine u_step (o_bin_int rfl rfl (by decide) rfl ?_)
  refine u_nil ?_
  refine hK3 _ ?_
  refine WP.cond rfl (fun hc4 => ?_) (fun hc4 => ?_)
  ·
    try simp only [Q0, Q1, Q2, Q3, Q4, Q5, Q6, Q7, Q8, ge_iff_le, gt_iff_lt] at hc4
    refine WP.seq fun K5 hK5 => ?_
    refine WP.reg tabOk rfl ?_
    refine u_step (o_assign rfl ?_)
    refine u_nil ?_
    refine hK5 _ ?_
    refine WP.ret ?_
    refine ret_ok rfl ?_ (by omega) (fun _ _ => rfl)
    -- ret 1
    refine congrArg D.bool (Eq.symm (decide_eq_false fun e => ?_))
    subst e
    simp at hc4
  ·
    try simp only [Q0, Q1, Q2, Q3, Q4, Q5, Q6, Q7, Q8, ge_iff_le, gt_iff_lt] at hc4
    have hl : a.length = b.length := by simp at hc4; omega
    refine WP.skip ?_
    refine hK2 _ ?_
    refine WP.seq fun K6 hK6 => ?_
    refine WP.seq fun K7 hK7 => ?_
    refine WP.reg tabOk rfl ?_
    refine u_step (o_move rfl ?_)
    refine u_step (o_len_sl rfl th22 rfl ?_)
    refine u_step (o_move rfl ?_)
    refine u_nil ?_
    refine hK7 _ ?_
    refine WP.block ?_
    refine WP.loopL (ι := Nat) (fun i => ⟨al [(0, .d (.sl 1 (a.map .str))), (1, .d (.sl 1 (b.map .str))), (12, .d (.int .i64 (a.map D.str).length)), (13, .d (.int .i64 i))], o, nk⟩) (fun i => i ≤ a.length ∧ ∀ (j : Nat) (hj : j < a.length) (hk : j < b.length), j < i → a[j] = b[j]) (fun i => a.length - i) (fun i hA => ?_) 0 ?_ ?_
    ·
      obtain ⟨hle_i, hin_i⟩ := hA
      refine WP.seq fun K8 hK8 => ?_
      refine WP.reg tabOk rfl ?_
      refine u_step (o_bin_int rfl rfl (by decide) rfl ?_)
      refine u_nil ?_
      refine hK8 _ ?_
      refine WP.seq fun K9 hK9 => ?_
      refine WP.cond rfl (fun hc10 => ?_) (fun hc10 => ?_)
      ·
        try simp only [Q0, Q1, Q2, Q3, Q4, Q5, Q6, Q7, Q8, ge_iff_le, gt_iff_lt] at hc10
        refine WP.skip ?_
        refine hK9 _ ?_
        refine WP.seq fun K11 hK11 => ?_
        refine WP.block ?_
        refine WP.seq fun K12 hK12 => ?_
        refine WP.reg tabOk rfl ?_
        refine u_step (o_move rfl ?_)
        refine u_step (o_assign rfl ?_)
        refine u_nil ?_
        refine hK12 _ ?_
        refine WP.seq fun K13 hK13 => ?_
        refine WP.drw tabOk (by kernel_rfl) rfl (by kernel_rfl) ?_
        refine d_step (o_move rfl ⟨rfl, rfl, rfl⟩) ?_
        refine d_step (o_move rfl ⟨rfl, rfl, rfl⟩) ?_
        first | refine d_step (o_ia_map rfl rfl th22 rfl th9 rfl (by omega) ⟨rfl, rfl, rfl⟩) ?_ | refine d_step (o_ia_vs rfl rfl th22 rfl th9 rfl (by omega) ⟨rfl, rfl, rfl⟩) ?_
        refine d_step (o_ld_el rfl th9 rfl rfl ⟨rfl, rfl, rfl⟩) ?_
        refine d_step (o_move rfl ⟨rfl, rfl, rfl⟩) ?_
        refine d_step (o_move rfl ⟨rfl, rfl, rfl⟩) ?_
        first | refine d_step (o_ia_map rfl rfl th22 rfl th9 rfl (by omega) ⟨rfl, rfl, rfl⟩) ?_ | refine d_step (o_ia_vs rfl rfl th22 rfl th9 rfl (by omega) ⟨rfl, rfl, rfl⟩) ?_
        refine d_step (o_ld_el rfl th9 rfl rfl ⟨rfl, rfl, rfl⟩) ?_
        refine d_step (o_bin_str rfl rfl rfl ⟨rfl, rfl, rfl⟩) ?_
        refine d_nil ?_
        refine hK13 _ ?_
        refine WP.cond rfl (fun hc14 => ?_) (fun hc14 => ?_)
        ·
          try simp only [Q0, Q1, Q2, Q3, Q4, Q5, Q6, Q7, Q8, ge_iff_le, gt_iff_lt] at hc14
          refine WP.seq fun K15 hK15 => ?_
          refine WP.reg tabOk rfl ?_
          refine u_step (o_assign rfl ?_)
          refine u_nil ?_
          refine hK15 _ ?_
          refine WP.ret ?_
          refine ret_ok rfl ?_ (by omega) (fun _ _ => rfl)
          -- ret 2
          refine congrArg D.bool (Eq.symm (decide_eq_false fun e => ?_))
          subst e
          simp at hc14
        ·
          try simp only [Q0, Q1, Q2, Q3, Q4, Q5, Q6, Q7, Q8, ge_iff_le, gt_iff_lt] at hc14
          refine WP.skip ?_
          refine hK11 _ ?_
          refine WP.reg tabOk rfl ?_
          refine u_step (o_bin_int rfl rfl (by decide) rfl ?_)
          refine u_step (o_move rfl ?_)
          refine u_nil ?_
          -- back
          refine ⟨i + 1, ⟨by omega, ?_⟩, by omega, ?_⟩
          · intro j hj hk h1
            by_cases h2 : j = i
            · subst h2; simpa using hc14
            · exact hin_i j hj hk (by omega)
          · refine Le.al ?_
            simp only [List.forall_mem_cons]
            exact ⟨rfl, rfl, rfl, cnt (by omega), by simp⟩
      ·
        try simp only [Q0, Q1, Q2, Q3, Q4, Q5, Q6, Q7, Q8, ge_iff_le, gt_iff_lt] at hc10
        refine WP.exit ?_
        refine hK6 _ ?_
        refine WP.seq fun K16 hK16 => ?_
        refine WP.reg tabOk rfl ?_
        refine u_step (o_assign rfl ?_)
        refine u_nil ?_
        refine hK16 _ ?_
        refine WP.ret ?_
        refine ret_ok rfl ?_ (by omega) (fun _ _ => rfl)
        -- ret 3
        refine congrArg D.bool (Eq.symm (decide_eq_true ?_))
        exact List.ext_getElem hl fun j h1 h2 => hin_i j h1 h2 (by omega)
    ·
      simp
    ·
      refine Le.al ?_
      simp only [List.forall_mem_cons]
      exact ⟨rfl, rfl, rfl, rfl, by simp⟩

theorem fn91 : FnOk Tryz.prog 91 15 [4] (bodyOf Tryz.f91) := ⟨Tryz.f91, Tryz.func91, by kernel_rfl, by decide, by kernel_rfl, by kernel_rfl⟩
theorem s91 (a b : List Str) : PSpec Tryz.prog 91 [.d (.sl 1 (a.map .str)), .d (.sl 1 (b.map .str))] (.d (.bool (decide (a = b)))) := by
  refine PSpec.of fn91 (by simp) fun o nk => ?_
  refine WP.seq fun K1 hK1 => ?_
  refine WP.reg tabOk rfl ?_
  refine u_step (o_assign rfl ?_)
  refine u_nil ?_
  refine hK1 _ ?_
  refine WP.seq fun K2 hK2 => ?_
  refine WP.reg tabOk rfl ?_
  refine u_step (o_move rfl ?_)
  refine u_step (o_len_sl rfl th22 rfl ?_)
  refine u_step (o_move rfl ?_)
  refine u_step (o_len_sl rfl th22 rfl ?_)
  refine u_step (o_bin_int rfl rfl (by decide) rfl ?_)
  refine u_step (o_move rfl ?_)
  apply u_guard
  · exact GC.t _
  · intro hg
    refine o_move rfl ⟨rfl, rfl, rfl⟩
  apply u_guard
  · exact GC.t _
  · intro hg
    refine o_move rfl ⟨rfl, rfl, rfl⟩
  apply u_guard
  · exact GC.t _
  · intro hg; try simp only [hg, cnd_true]; try simp only [hg, cnd_true, Bool.true_and]
    refine o_pcall (s63 _ _) rfl ⟨rfl, rfl, rfl⟩
  refine u_step (o_pick_and rfl rfl rfl ?_)
  refine u_step (o_assign rfl ?_)
  refine u_nil ?_
  refine hK2 _ ?_
  refine WP.ret ?_
  refine ret_ok rfl ?_ (by omega) (fun _ _ => rfl)
  -- ret 1
  refine congrArg D.bool ?_
  rw [Bool.eq_iff_iff]
  simp only [Bool.and_eq_true, beq_iff_eq, List.length_map, decide_eq_true_eq, beginsV]
  constructor
  · rintro ⟨h1, h2⟩; exact h2.eq_of_length (by omega)
  · rintro rfl; exact ⟨rfl, List.prefix_refl _⟩

theorem s157t (a b : List Str) (m : Nat) : PSpec Tryz.prog 157 [.d (.sl 1 (a.map .str)), .d (.sl 1 (((b.map .str).take m).drop 0))] (.d (.bool (decide (a = b.take m)))) := by
  have := s157 a (b.take m)
  rwa [List.map_take] at this
end Go.Proofs.YtpkcbdhjnnnkbaaGreat.Abs

set_option linter.unusedVariables false
set_option linter.unusedSimpArgs false
set_option maxRecDepth 10000
namespace Go.Proofs.YtpkcbdhjnnnkbaaGreat.Abs
open Go
def meetV (a b : List Str) : Bool := beginsV a b || beginsV b a

theorem fn162 : FnOk Tryz.prog 162 18 [4] (bodyOf Tryz.f162) := ⟨Tryz.f162, Tryz.func162, by kernel_rfl, by decide, by kernel_rfl, by kernel_rfl⟩
theorem s162 (a b : List Str) : PSpec Tryz.prog 162 [.d (.sl 1 (a.map .str)), .d (.sl 1 (b.map .str))] (.d (.bool (beginsV a b))) := by
  refine PSpec.of fn162 (by simp) fun o nk => ?_
  refine WP.seq fun K1 hK1 => ?_
  refine WP.reg tabOk rfl ?_
  refine u_step (o_assign rfl ?_)
  refine u_nil ?_
  refine hK1 _ ?_
  refine WP.seq fun K2 hK2 => ?_
  refine WP.reg tabOk rfl ?_
  refine u_step (o_move rfl ?_)
  refine u_step (o_len_sl rfl th22 rfl ?_)
  refine u_step (o_move rfl ?_)
  refine u_step (o_len_sl rfl th22 rfl ?_)
  refine u_step (o_bin_int rfl rfl (by decide) rfl ?_)
  refine u_step (o_move rfl ?_)
  apply u_guard
  · exact GC.t _
  · intro hg
    refine o_move rfl ⟨rfl, rfl, rfl⟩
  apply u_guard
  · exact GC.t _
  · intro hg
    refine o_move rfl ⟨rfl, rfl, rfl⟩
  apply u_guard
  · exact GC.t _
  · intro hg
    refine o_move rfl ⟨rfl, rfl, rfl⟩
  apply u_guard
  · exact GC.t _
  · intro hg; try simp only [hg, cnd_true]; try simp only [hg, cnd_true, Bool.true_and]
    refine o_len_sl rfl th22 rfl ⟨rfl, rfl, rfl⟩
  apply u_guard
  · exact GC.t _
  · intro hg; try simp only [hg, cnd_true]; try simp only [hg, cnd_true, Bool.true_and]
    have hg2 := hg; try simp only [Q0, Q1, Q2, Q3, Q4, Q5, Q6, Q9, Qa, Qb, Qc, Qd] at hg2
    refine o_sl_sl (m := (a.map D.str).length) (p := 0) rfl th22 rfl th9 rfl (bnd_nat (by simp only [List.length_map]; omega)) rfl ⟨rfl, rfl, rfl⟩
  apply u_guard
  · exact GC.t _
  · intro hg; try simp only [hg, cnd_true]; try simp only [hg, cnd_true, Bool.true_and]
    refine o_pcall (s157t a b _) rfl ⟨rfl, rfl, rfl⟩
  refine u_step (o_pick_and rfl rfl rfl ?_)
  refine u_step (o_assign rfl ?_)
  refine u_nil ?_
  refine hK2 _ ?_
  refine WP.ret ?_
  refine ret_ok rfl ?_ (by omega) (fun _ _ => rfl)
  -- ret 1
  refine congrArg D.bool ?_
  rw [Bool.eq_iff_iff]
  simp only [Bool.and_eq_true, decide_eq_true_eq, List.length_map, beginsV, List.prefix_iff_eq_take]
  constructor
  · rintro ⟨_, h⟩; exact h
  · intro h; refine ⟨?_, h⟩; have := congrArg List.length h; simp at this; omega

theorem fn126 : FnOk Tryz.prog 126 13 [4] (bodyOf Tryz.f126) := ⟨Tryz.f126, Tryz.func126, by kernel_rfl, by decide, by kernel_rfl, by kernel_rfl⟩
theorem s126 (a b : List Str) : PSpec Tryz.prog 126 [.d (.sl 1 (a.map .str)), .d (.sl 1 (b.map .str))] (.d (.bool (meetV a b))) := by
  refine PSpec.of fn126 (by simp) fun o nk => ?_
  refine WP.seq fun K1 hK1 => ?_
  refine WP.reg tabOk rfl ?_
  refine u_step (o_assign rfl ?_)
  refine u_nil ?_
  refine hK1 _ ?_
  refine WP.seq fun K2 hK2 => ?_
  refine WP.reg tabOk rfl ?_
  refine u_step (o_move rfl ?_)
  refine u_step (o_move rfl ?_)
  refine u_step (o_pcall (s162 _ _) rfl ?_)
  refine u_step (o_move rfl ?_)
  apply u_guard
  · exact GC.f _
  · intro hg
    refine o_move rfl ⟨rfl, rfl, rfl⟩
  apply u_guard
  · exact GC.f _
  · intro hg
    refine o_move rfl ⟨rfl, rfl, rfl⟩
  apply u_guard
  · exact GC.f _
  · intro hg; try simp only [hg, cnd_true]; try simp only [hg, cnd_true, Bool.true_and]
    refine o_pcall (s162 _ _) rfl ⟨rfl, rfl, rfl⟩
  refine u_step (o_pick_or rfl rfl rfl ?_)
  refine u_step (o_assign rfl ?_)
  refine u_nil ?_
  refine hK2 _ ?_
  refine WP.ret ?_
  refine ret_ok rfl ?_ (by omega) (fun _ _ => rfl)
  -- ret 1
  rfl

end Go.Proofs.YtpkcbdhjnnnkbaaGreat.Abs

set_option linter.unusedVariables false
set_option linter.unusedSimpArgs false
set_option maxRecDepth 10000
namespace Go.Proofs.YtpkcbdhjnnnkbaaGreat.Abs
open Go
/-- A change that may be. -/
def mayD (d : Dlt) : Bool := pathV d.path && (if d.kind = 1 then decide (checkV d.value = 0) && decide (d.n = 0) else if d.kind = 2 then noneV d.value && decide (d.n = 0) else if d.kind = 3 then noneV d.value && decide (0 ≤ d.n) && decide (d.n ≤ 999) else false)
def okD (d : Dlt) : Prop := rngV d.value ∧ szV d.value ≤ 1099511627776
def checkD (l : List Dlt) : Int := if 64 < l.length then 3 else if l.all mayD then 0 else 1
theorem none_le (v : Val) : SV.les [.d (.agg (valCells v)), .d (.agg [.int .i64 0, .int .i64 0, .str [], .nil, .nil])] [.d (encV v), .d (encV (.mk 0 0 [] [] []))] := by
  refine ⟨?_, ?_, trivial⟩
  · show D.le (.agg (valCells v)) (encV v)
    rw [encV_eq]; exact D.le_refl _
  · show D.le (.agg [.int .i64 0, .int .i64 0, .str [], .nil, .nil]) (encV (.mk 0 0 [] [] []))
    simp [D.le, D.les, encV, encVs]
theorem s30n (v : Val) : PSpec Tryz.prog 30 [.d (.agg (valCells v)), .d (.agg [.int .i64 0, .int .i64 0, .str [], .nil, .nil])] (.d (.bool (noneV v))) := by
  have := PSpec.le (s30 v (.mk 0 0 [] [] [])) (none_le v)
  rwa [none_same] at this

theorem fn73 : FnOk Tryz.prog 73 45 [2] (bodyOf Tryz.f73) := ⟨Tryz.f73, Tryz.func73, by kernel_rfl, by decide, by kernel_rfl, by kernel_rfl⟩
theorem s73 (d : Dlt) (hd : okD d) : PSpec Tryz.prog 73 [.d (encD d)] (.d (.bool (mayD d))) := by
  refine PSpec.of fn73 (by simp) fun o nk => ?_
  refine WP.seq fun K1 hK1 => ?_
  refine WP.reg tabOk rfl ?_
  refine u_step (g_box rfl fun o2 hb2 hk2 => ?_)
  refine u_step (o_assign rfl ?_)
  refine u_nil ?_
  refine hK1 _ ?_
  refine WP.seq fun K3 hK3 => ?_
  refine WP.seq fun K4 hK4 => ?_
  refine WP.reg tabOk rfl ?_
  refine u_step (o_fa_loc rfl th83 rfl rfl th22 (by decide) hb2 ?_)
  refine u_step (o_ld_loc rfl th22 rfl hb2 rfl ?_)
  refine u_step (o_pcall (s56 _) rfl ?_)
  refine u_step (o_not rfl ?_)
  refine u_nil ?_
  refine hK4 _ ?_
  refine WP.cond rfl (fun hc5 => ?_) (fun hc5 => ?_)
  ·
    try simp only [Q0, Q1, Q2, Q3, Q4, Q5, Q6, Q7, Q8, ge_iff_le, gt_iff_lt] at hc5
    refine WP.seq fun K6 hK6 => ?_
    refine WP.reg tabOk rfl ?_
    refine u_step (o_assign rfl ?_)
    refine u_nil ?_
    refine hK6 _ ?_
    refine WP.ret ?_
    refine ret_ok rfl ?_ (by omega) (fun t ht => (hk2 t (by omega)))
    -- ret 1
    clear hK1 hK3 hK4 hK6
    refine congrArg D.bool ?_
    simp only [mayD]
    grind
  ·
    try simp only [Q0, Q1, Q2, Q3, Q4, Q5, Q6, Q7, Q8, ge_iff_le, gt_iff_lt] at hc5
    refine WP.skip ?_
    refine hK3 _ ?_
    refine WP.seq fun K7 hK7 => ?_
    refine WP.seq fun K8 hK8 => ?_
    refine WP.reg tabOk rfl ?_
    refine u_step (o_fa_loc rfl th83 rfl rfl th3 (by decide) hb2 ?_)
    refine u_step (o_ld_loc rfl th3 rfl hb2 rfl ?_)
    refine u_nil ?_
    refine hK8 _ ?_
    refine WP.block ?_
    refine WP.seq fun K9 hK9 => ?_
    refine WP.reg tabOk rfl ?_
    refine u_step (o_bin_int rfl rfl (by decide) rfl ?_)
    refine u_step (o_assign rfl ?_)
    refine u_nil ?_
    refine hK9 _ ?_
    refine WP.cond rfl (fun hc10 => ?_) (fun hc10 => ?_)
    ·
      try simp only [Q0, Q1, Q2, Q3, Q4, Q5, Q6, Q7, Q8, ge_iff_le, gt_iff_lt] at hc10
      refine WP.seq fun K11 hK11 => ?_
      refine WP.reg tabOk rfl ?_
      refine u_step (o_fa_loc rfl th83 rfl rfl th27 (by decide) hb2 ?_)
      refine u_step (o_ld_agg rfl th27 rfl hb2 rfl rfl rfl ?_)
      refine u_step (o_pcall (pv (v := d.value) (s123 d.value hd.1 hd.2)) rfl ?_)
      refine u_step (o_bin_int rfl rfl (by decide) rfl ?_)
      refine u_step (o_move rfl ?_)
      apply u_guard
      · exact GC.t _
      · intro hg
        refine o_fa_loc rfl th83 rfl rfl th3 (by decide) hb2 ⟨rfl, rfl, rfl⟩
      apply u_guard
      · exact GC.t _
      · intro hg; try simp only [hg, cnd_true]; try simp only [hg, cnd_true, Bool.true_and]
        refine o_ld_loc rfl th3 rfl hb2 rfl ⟨rfl, rfl, rfl⟩
      apply u_guard
      · exact GC.t _
      · intro hg; try simp only [hg, cnd_true]; try simp only [hg, cnd_true, Bool.true_and]
        refine o_bin_int rfl rfl (by decide) rfl ⟨rfl, rfl, rfl⟩
      refine u_step (o_pick_and rfl rfl rfl ?_)
      refine u_step (o_assign rfl ?_)
      refine u_nil ?_
      refine hK11 _ ?_
      refine WP.ret ?_
      refine ret_ok rfl ?_ (by omega) (fun t ht => (hk2 t (by omega)))
      -- ret 2
      clear hK1 hK3 hK4 hK7 hK8 hK9 hK11
      refine congrArg D.bool ?_
      simp only [mayD]
      grind
    ·
      try simp only [Q0, Q1, Q2, Q3, Q4, Q5, Q6, Q7, Q8, ge_iff_le, gt_iff_lt] at hc10
      refine WP.seq fun K12 hK12 => ?_
      refine WP.reg tabOk rfl ?_
      refine u_step (o_bin_int rfl rfl (by decide) rfl ?_)
      refine u_step (o_assign rfl ?_)
      refine u_nil ?_
      refine hK12 _ ?_
      refine WP.cond rfl (fun hc13 => ?_) (fun hc13 => ?_)
      ·
        try simp only [Q0, Q1, Q2, Q3, Q4, Q5, Q6, Q7, Q8, ge_iff_le, gt_iff_lt] at hc13
        refine WP.seq fun K14 hK14 => ?_
        refine WP.reg tabOk rfl ?_
        refine u_step (o_fa_loc rfl th83 rfl rfl th27 (by decide) hb2 ?_)
        refine u_step (o_ld_agg rfl th27 rfl hb2 rfl rfl rfl ?_)
        refine u_step (o_pcall (pv (v := d.value) (s124 d.value hd.2)) rfl ?_)
        refine u_step (o_move rfl ?_)
        apply u_guard
        · exact GC.t _
        · intro hg
          refine o_fa_loc rfl th83 rfl rfl th3 (by decide) hb2 ⟨rfl, rfl, rfl⟩
        apply u_guard
        · exact GC.t _
        · intro hg; try simp only [hg, cnd_true]; try simp only [hg, cnd_true, Bool.true_and]
          refine o_ld_loc rfl th3 rfl hb2 rfl ⟨rfl, rfl, rfl⟩
        apply u_guard
        · exact GC.t _
        · intro hg; try simp only [hg, cnd_true]; try simp only [hg, cnd_true, Bool.true_and]
          refine o_bin_int rfl rfl (by decide) rfl ⟨rfl, rfl, rfl⟩
        refine u_step (o_pick_and rfl rfl rfl ?_)
        refine u_step (o_assign rfl ?_)
        refine u_nil ?_
        refine hK14 _ ?_
        refine WP.ret ?_
        refine ret_ok rfl ?_ (by omega) (fun t ht => (hk2 t (by omega)))
        -- ret 3
        clear hK1 hK3 hK4 hK7 hK8 hK9 hK12 hK14
        refine congrArg D.bool ?_
        simp only [mayD]
        grind
      ·
        try simp only [Q0, Q1, Q2, Q3, Q4, Q5, Q6, Q7, Q8, ge_iff_le, gt_iff_lt] at hc13
        refine WP.seq fun K15 hK15 => ?_
        refine WP.reg tabOk rfl ?_
        refine u_step (o_bin_int rfl rfl (by decide) rfl ?_)
        refine u_step (o_assign rfl ?_)
        refine u_nil ?_
        refine hK15 _ ?_
        refine WP.cond rfl (fun hc16 => ?_) (fun hc16 => ?_)
        ·
          try simp only [Q0, Q1, Q2, Q3, Q4, Q5, Q6, Q7, Q8, ge_iff_le, gt_iff_lt] at hc16
          refine WP.seq fun K17 hK17 => ?_
          refine WP.reg tabOk rfl ?_
          refine u_step (o_fa_loc rfl th83 rfl rfl th27 (by decide) hb2 ?_)
          refine u_step (o_ld_agg rfl th27 rfl hb2 rfl rfl rfl ?_)
          refine u_step (o_pcall (pv (v := d.value) (s124 d.value hd.2)) rfl ?_)
          refine u_step (o_move rfl ?_)
          apply u_guard
          · exact GC.t _
          · intro hg
            refine o_fa_loc rfl th83 rfl rfl th3 (by decide) hb2 ⟨rfl, rfl, rfl⟩
          apply u_guard
          · exact GC.t _
          · intro hg; try simp only [hg, cnd_true]; try simp only [hg, cnd_true, Bool.true_and]
            refine o_ld_loc rfl th3 rfl hb2 rfl ⟨rfl, rfl, rfl⟩
          apply u_guard
          · exact GC.t _
          · intro hg; try simp only [hg, cnd_true]; try simp only [hg, cnd_true, Bool.true_and]
            refine o_bin_int rfl rfl (by decide) rfl ⟨rfl, rfl, rfl⟩
          refine u_step (o_pick_and rfl rfl rfl ?_)
          refine u_step (o_move rfl ?_)
          apply u_guard
          · exact GC.t _
          · intro hg
            refine o_fa_loc rfl th83 rfl rfl th3 (by decide) hb2 ⟨rfl, rfl, rfl⟩
          apply u_guard
          · exact GC.t _
          · intro hg; try simp only [hg, cnd_true]; try simp only [hg, cnd_true, Bool.true_and]
            refine o_ld_loc rfl th3 rfl hb2 rfl ⟨rfl, rfl, rfl⟩
          apply u_guard
          · exact GC.t _
          · intro hg; try simp only [hg, cnd_true]; try simp only [hg, cnd_true, Bool.true_and]
            refine o_bin_int rfl rfl (by decide) rfl ⟨rfl, rfl, rfl⟩
          refine u_step (o_pick_and rfl rfl rfl ?_)
          refine u_step (o_assign rfl ?_)
          refine u_nil ?_
          refine hK17 _ ?_
          refine WP.ret ?_
          refine ret_ok rfl ?_ (by omega) (fun t ht => (hk2 t (by omega)))
          -- ret 4
          clear hK1 hK3 hK4 hK7 hK8 hK9 hK12 hK15 hK17
          refine congrArg D.bool ?_
          simp only [mayD]
          grind
        ·
          try simp only [Q0, Q1, Q2, Q3, Q4, Q5, Q6, Q7, Q8, ge_iff_le, gt_iff_lt] at hc16
          refine WP.skip ?_
          refine hK7 _ ?_
          refine WP.seq fun K18 hK18 => ?_
          refine WP.reg tabOk rfl ?_
          refine u_step (o_assign rfl ?_)
          refine u_nil ?_
          refine hK18 _ ?_
          refine WP.ret ?_
          refine ret_ok rfl ?_ (by omega) (fun t ht => (hk2 t (by omega)))
          -- ret 5
          clear hK1 hK3 hK4 hK7 hK8 hK9 hK12 hK15 hK18
          refine congrArg D.bool ?_
          simp only [mayD]
          grind

theorem fn79 : FnOk Tryz.prog 79 46 [2] (bodyOf Tryz.f79) := ⟨Tryz.f79, Tryz.func79, by kernel_rfl, by decide, by kernel_rfl, by kernel_rfl⟩
theorem s79 (d : Dlt) (hd : okD d) : PSpec Tryz.prog 79 [.d (encD d)] (.d (.bool (mayD d))) := by
  refine PSpec.of fn79 (by simp) fun o nk => ?_
  refine WP.seq fun K1 hK1 => ?_
  refine WP.reg tabOk rfl ?_
  refine u_step (g_box rfl fun o2 hb2 hk2 => ?_)
  refine u_step (o_assign rfl ?_)
  refine u_nil ?_
  refine hK1 _ ?_
  refine WP.seq fun K3 hK3 => ?_
  refine WP.seq fun K4 hK4 => ?_
  refine WP.reg tabOk rfl ?_
  refine u_step (o_fa_loc rfl th83 rfl rfl th22 (by decide) hb2 ?_)
  refine u_step (o_ld_loc rfl th22 rfl hb2 rfl ?_)
  refine u_step (o_pcall (s58 _) rfl ?_)
  refine u_step (o_not rfl ?_)
  refine u_nil ?_
  refine hK4 _ ?_
  refine WP.cond rfl (fun hc5 => ?_) (fun hc5 => ?_)
  ·
    try simp only [Q0, Q1, Q2, Q3, Q4, Q5, Q6, Q7, Q8, ge_iff_le, gt_iff_lt] at hc5
    refine WP.seq fun K6 hK6 => ?_
    refine WP.reg tabOk rfl ?_
    refine u_step (o_assign rfl ?_)
    refine u_nil ?_
    refine hK6 _ ?_
    refine WP.ret ?_
    refine ret_ok rfl ?_ (by omega) (fun t ht => (hk2 t (by omega)))
    -- ret 1
    clear hK1 hK3 hK4 hK6
    refine congrArg D.bool ?_
    simp only [mayD]
    grind
  ·
    try simp only [Q0, Q1, Q2, Q3, Q4, Q5, Q6, Q7, Q8, ge_iff_le, gt_iff_lt] at hc5
    refine WP.skip ?_
    refine hK3 _ ?_
    refine WP.seq fun K7 hK7 => ?_
    refine WP.reg tabOk rfl ?_
    refine u_step (o_fa_loc rfl th83 rfl rfl th27 (by decide) hb2 ?_)
    refine u_step (o_ld_agg rfl th27 rfl hb2 rfl rfl rfl ?_)
    refine u_step (o_bu rfl th27 rfl rfl ?_)
    refine u_step (o_pcall (s30n d.value) rfl ?_)
    refine u_step (o_assign rfl ?_)
    refine u_nil ?_
    refine hK7 _ ?_
    refine WP.seq fun K8 hK8 => ?_
    refine WP.seq fun K9 hK9 => ?_
    refine WP.reg tabOk rfl ?_
    refine u_step (o_fa_loc rfl th83 rfl rfl th3 (by decide) hb2 ?_)
    refine u_step (o_ld_loc rfl th3 rfl hb2 rfl ?_)
    refine u_nil ?_
    refine hK9 _ ?_
    refine WP.block ?_
    refine WP.seq fun K10 hK10 => ?_
    refine WP.reg tabOk rfl ?_
    refine u_step (o_bin_int rfl rfl (by decide) rfl ?_)
    refine u_step (o_assign rfl ?_)
    refine u_nil ?_
    refine hK10 _ ?_
    refine WP.cond rfl (fun hc11 => ?_) (fun hc11 => ?_)
    ·
      try simp only [Q0, Q1, Q2, Q3, Q4, Q5, Q6, Q7, Q8, ge_iff_le, gt_iff_lt] at hc11
      refine WP.seq fun K12 hK12 => ?_
      refine WP.reg tabOk rfl ?_
      refine u_step (o_fa_loc rfl th83 rfl rfl th27 (by decide) hb2 ?_)
      refine u_step (o_ld_agg rfl th27 rfl hb2 rfl rfl rfl ?_)
      refine u_step (o_pcall (pv (v := d.value) (s66 d.value hd.1 hd.2)) rfl ?_)
      refine u_step (o_bin_int rfl rfl (by decide) rfl ?_)
      refine u_step (o_move rfl ?_)
      apply u_guard
      · exact GC.t _
      · intro hg
        refine o_fa_loc rfl th83 rfl rfl th3 (by decide) hb2 ⟨rfl, rfl, rfl⟩
      apply u_guard
      · exact GC.t _
      · intro hg; try simp only [hg, cnd_true]; try simp only [hg, cnd_true, Bool.true_and]
        refine o_ld_loc rfl th3 rfl hb2 rfl ⟨rfl, rfl, rfl⟩
      apply u_guard
      · exact GC.t _
      · intro hg; try simp only [hg, cnd_true]; try simp only [hg, cnd_true, Bool.true_and]
        refine o_bin_int rfl rfl (by decide) rfl ⟨rfl, rfl, rfl⟩
      refine u_step (o_pick_and rfl rfl rfl ?_)
      refine u_step (o_assign rfl ?_)
      refine u_nil ?_
      refine hK12 _ ?_
      refine WP.ret ?_
      refine ret_ok rfl ?_ (by omega) (fun t ht => (hk2 t (by omega)))
      -- ret 2
      clear hK1 hK3 hK4 hK7 hK8 hK9 hK10 hK12
      refine congrArg D.bool ?_
      simp only [mayD]
      grind
    ·
      try simp only [Q0, Q1, Q2, Q3, Q4, Q5, Q6, Q7, Q8, ge_iff_le, gt_iff_lt] at hc11
      refine WP.seq fun K13 hK13 => ?_
      refine WP.reg tabOk rfl ?_
      refine u_step (o_bin_int rfl rfl (by decide) rfl ?_)
      refine u_step (o_assign rfl ?_)
      refine u_nil ?_
      refine hK13 _ ?_
      refine WP.cond rfl (fun hc14 => ?_) (fun hc14 => ?_)
      ·
        try simp only [Q0, Q1, Q2, Q3, Q4, Q5, Q6, Q7, Q8, ge_iff_le, gt_iff_lt] at hc14
        refine WP.seq fun K15 hK15 => ?_
        refine WP.reg tabOk rfl ?_
        refine u_step (o_move rfl ?_)
        refine u_step (o_move rfl ?_)
        apply u_guard
        · exact GC.t _
        · intro hg
          refine o_fa_loc rfl th83 rfl rfl th3 (by decide) hb2 ⟨rfl, rfl, rfl⟩
        apply u_guard
        · exact GC.t _
        · intro hg; try simp only [hg, cnd_true]; try simp only [hg, cnd_true, Bool.true_and]
          refine o_ld_loc rfl th3 rfl hb2 rfl ⟨rfl, rfl, rfl⟩
        apply u_guard
        · exact GC.t _
        · intro hg; try simp only [hg, cnd_true]; try simp only [hg, cnd_true, Bool.true_and]
          refine o_bin_int rfl rfl (by decide) rfl ⟨rfl, rfl, rfl⟩
        refine u_step (o_pick_and rfl rfl rfl ?_)
        refine u_step (o_assign rfl ?_)
        refine u_nil ?_
        refine hK15 _ ?_
        refine WP.ret ?_
        refine ret_ok rfl ?_ (by omega) (fun t ht => (hk2 t (by omega)))
        -- ret 3
        clear hK1 hK3 hK4 hK7 hK8 hK9 hK10 hK13 hK15
        refine congrArg D.bool ?_
        simp only [mayD]
        grind
      ·
        try simp only [Q0, Q1, Q2, Q3, Q4, Q5, Q6, Q7, Q8, ge_iff_le, gt_iff_lt] at hc14
        refine WP.seq fun K16 hK16 => ?_
        refine WP.reg tabOk rfl ?_
        refine u_step (o_bin_int rfl rfl (by decide) rfl ?_)
        refine u_step (o_assign rfl ?_)
        refine u_nil ?_
        refine hK16 _ ?_
        refine WP.cond rfl (fun hc17 => ?_) (fun hc17 => ?_)
        ·
          try simp only [Q0, Q1, Q2, Q3, Q4, Q5, Q6, Q7, Q8, ge_iff_le, gt_iff_lt] at hc17
          refine WP.seq fun K18 hK18 => ?_
          refine WP.reg tabOk rfl ?_
          refine u_step (o_move rfl ?_)
          refine u_step (o_move rfl ?_)
          apply u_guard
          · exact GC.t _
          · intro hg
            refine o_fa_loc rfl th83 rfl rfl th3 (by decide) hb2 ⟨rfl, rfl, rfl⟩
          apply u_guard
          · exact GC.t _
          · intro hg; try simp only [hg, cnd_true]; try simp only [hg, cnd_true, Bool.true_and]
            refine o_ld_loc rfl th3 rfl hb2 rfl ⟨rfl, rfl, rfl⟩
          apply u_guard
          · exact GC.t _
          · intro hg; try simp only [hg, cnd_true]; try simp only [hg, cnd_true, Bool.true_and]
            refine o_bin_int rfl rfl (by decide) rfl ⟨rfl, rfl, rfl⟩
          refine u_step (o_pick_and rfl rfl rfl ?_)
          refine u_step (o_move rfl ?_)
          apply u_guard
          · exact GC.t _
          · intro hg
            refine o_fa_loc rfl th83 rfl rfl th3 (by decide) hb2 ⟨rfl, rfl, rfl⟩
          apply u_guard
          · exact GC.t _
          · intro hg; try simp only [hg, cnd_true]; try simp only [hg, cnd_true, Bool.true_and]
            refine o_ld_loc rfl th3 rfl hb2 rfl ⟨rfl, rfl, rfl⟩
          apply u_guard
          · exact GC.t _
          · intro hg; try simp only [hg, cnd_true]; try simp only [hg, cnd_true, Bool.true_and]
            refine o_bin_int rfl rfl (by decide) rfl ⟨rfl, rfl, rfl⟩
          refine u_step (o_pick_and rfl rfl rfl ?_)
          refine u_step (o_assign rfl ?_)
          refine u_nil ?_
          refine hK18 _ ?_
          refine WP.ret ?_
          refine ret_ok rfl ?_ (by omega) (fun t ht => (hk2 t (by omega)))
          -- ret 4
          clear hK1 hK3 hK4 hK7 hK8 hK9 hK10 hK13 hK16 hK18
          refine congrArg D.bool ?_
          simp only [mayD]
          grind
        ·
          try simp only [Q0, Q1, Q2, Q3, Q4, Q5, Q6, Q7, Q8, ge_iff_le, gt_iff_lt] at hc17
          refine WP.skip ?_
          refine hK8 _ ?_
          refine WP.seq fun K19 hK19 => ?_
          refine WP.reg tabOk rfl ?_
          refine u_step (o_assign rfl ?_)
          refine u_nil ?_
          refine hK19 _ ?_
          refine WP.ret ?_
          refine ret_ok rfl ?_ (by omega) (fun t ht => (hk2 t (by omega)))
          -- ret 5
          clear hK1 hK3 hK4 hK7 hK8 hK9 hK10 hK13 hK16 hK19
          refine congrArg D.bool ?_
          simp only [mayD]
          grind

end Go.Proofs.YtpkcbdhjnnnkbaaGreat.Abs

set_option linter.unusedVariables false
set_option linter.unusedSimpArgs false
set_option maxRecDepth 10000
namespace Go.Proofs.YtpkcbdhjnnnkbaaGreat.Abs
open Go

theorem fn122 : FnOk Tryz.prog 122 6 [2] (bodyOf Tryz.f122) := ⟨Tryz.f122, Tryz.func122, by kernel_rfl, by decide, by kernel_rfl, by kernel_rfl⟩
theorem s122 (d : Dlt) (hd : okD d) : PSpec Tryz.prog 122 [.d (encD d)] (.d (.bool (!mayD d))) := by
  refine PSpec.of fn122 (by simp) fun o nk => ?_
  refine WP.seq fun K1 hK1 => ?_
  refine WP.reg tabOk rfl ?_
  refine u_step (g_box rfl fun o2 hb2 hk2 => ?_)
  refine u_step (o_assign rfl ?_)
  refine u_nil ?_
  refine hK1 _ ?_
  refine WP.seq fun K3 hK3 => ?_
  refine WP.reg tabOk rfl ?_
  refine u_step (o_ld_agg rfl th83 rfl hb2 rfl rfl rfl ?_)
  refine u_step (o_pcall (s73 d hd) rfl ?_)
  refine u_step (o_not rfl ?_)
  refine u_step (o_assign rfl ?_)
  refine u_nil ?_
  refine hK3 _ ?_
  refine WP.ret ?_
  refine ret_ok rfl ?_ (by omega) (fun t ht => (hk2 t (by omega)))
  -- ret 1
  rfl

theorem fn72 : FnOk Tryz.prog 72 10 [2] (bodyOf Tryz.f72) := ⟨Tryz.f72, Tryz.func72, by kernel_rfl, by decide, by kernel_rfl, by kernel_rfl⟩
theorem s72 (l : List Dlt) (hl : l.length ≤ 64 → ∀ d ∈ l, okD d) : PSpec Tryz.prog 72 [.d (.sl 8 (l.map encD))] (.d (.int .i64 (checkD l))) := by
  refine PSpec.of fn72 (by simp) fun o nk => ?_
  refine WP.seq fun K1 hK1 => ?_
  refine WP.reg tabOk rfl ?_
  refine u_step (o_assign rfl ?_)
  refine u_nil ?_
  refine hK1 _ ?_
  refine WP.seq fun K2 hK2 => ?_
  refine WP.block ?_
  refine WP.seq fun K3 hK3 => ?_
  refine WP.reg tabOk rfl ?_
  refine u_step (o_move rfl ?_)
  refine u_step (o_len_sl rfl th28 rfl ?_)
  refine u_step (o_bin_int rfl rfl (by decide) rfl ?_)
  refine u_step (o_assign rfl ?_)
  refine u_nil ?_
  refine hK3 _ ?_
  refine WP.cond rfl (fun hc4 => ?_) (fun hc4 => ?_)
  ·
    try simp only [Q0, Q1, Q2, Q3, Q4, Q5, Q6, Q7, Q8, ge_iff_le, gt_iff_lt] at hc4
    refine WP.seq fun K5 hK5 => ?_
    refine WP.reg tabOk rfl ?_
    refine u_step (o_assign rfl ?_)
    refine u_nil ?_
    refine hK5 _ ?_
    refine WP.ret ?_
    refine ret_ok rfl ?_ (by omega) (fun _ _ => rfl)
    -- ret 1
    clear hK1 hK2 hK3 hK5
    refine congrArg (D.int .i64) ?_
    try simp only [any_not] at hc4
    simp only [checkD]
    grind
  ·
    try simp only [Q0, Q1, Q2, Q3, Q4, Q5, Q6, Q7, Q8, ge_iff_le, gt_iff_lt] at hc4
    refine WP.seq fun K6 hK6 => ?_
    refine WP.reg tabOk rfl ?_
    refine u_step (o_move rfl ?_)
    refine u_step (o_scall (s121 l 122 [] [] (fun d => !mayD d) (fun x hx => s122 x (hl (by omega) x hx) _ _)) rfl ?_)
    refine u_step (o_assign rfl ?_)
    refine u_nil ?_
    refine hK6 _ ?_
    refine WP.cond rfl (fun hc7 => ?_) (fun hc7 => ?_)
    ·
      try simp only [Q0, Q1, Q2, Q3, Q4, Q5, Q6, Q7, Q8, ge_iff_le, gt_iff_lt] at hc7
      refine WP.seq fun K8 hK8 => ?_
      refine WP.reg tabOk rfl ?_
      refine u_step (o_assign rfl ?_)
      refine u_nil ?_
      refine hK8 _ ?_
      refine WP.ret ?_
      refine ret_ok rfl ?_ (by omega) (fun _ _ => rfl)
      -- ret 2
      clear hK1 hK2 hK3 hK6 hK8
      refine congrArg (D.int .i64) ?_
      try simp only [any_not] at hc4 hc7
      simp only [checkD]
      grind
    ·
      try simp only [Q0, Q1, Q2, Q3, Q4, Q5, Q6, Q7, Q8, ge_iff_le, gt_iff_lt] at hc7
      refine WP.skip ?_
      refine hK2 _ ?_
      refine WP.seq fun K9 hK9 => ?_
      refine WP.reg tabOk rfl ?_
      refine u_step (o_assign rfl ?_)
      refine u_nil ?_
      refine hK9 _ ?_
      refine WP.ret ?_
      refine ret_ok rfl ?_ (by omega) (fun _ _ => rfl)
      -- ret 3
      clear hK1 hK2 hK3 hK6 hK9
      refine congrArg (D.int .i64) ?_
      try simp only [any_not] at hc4 hc7
      simp only [checkD]
      grind

theorem fn31 : FnOk Tryz.prog 31 19 [2] (bodyOf Tryz.f31) := ⟨Tryz.f31, Tryz.func31, by kernel_rfl, by decide, by kernel_rfl, by kernel_rfl⟩
theorem s31 (l : List Dlt) (hl : l.length ≤ 64 → ∀ d ∈ l, okD d) : PSpec Tryz.prog 31 [.d (.sl 8 (l.map encD))] (.d (.int .i64 (checkD l))) := by
  refine PSpec.bd fun hbd => ?_
  have hx : l.length ≤ 9223372036854775807 := by simpa using hbd.1.1
  refine PSpec.of fn31 (by simp) fun o nk => ?_
  refine WP.seq fun K1 hK1 => ?_
  refine WP.reg tabOk rfl ?_
  refine u_step (o_assign rfl ?_)
  refine u_nil ?_
  refine hK1 _ ?_
  refine WP.seq fun K2 hK2 => ?_
  refine WP.seq fun K3 hK3 => ?_
  refine WP.reg tabOk rfl ?_
  refine u_step (o_move rfl ?_)
  refine u_step (o_len_sl rfl th28 rfl ?_)
  refine u_step (o_bin_int rfl rfl (by decide) rfl ?_)
  refine u_nil ?_
  refine hK3 _ ?_
  refine WP.cond rfl (fun hc4 => ?_) (fun hc4 => ?_)
  ·
    try simp only [Q0, Q1, Q2, Q3, Q4, Q5, Q6, Q7, Q8, ge_iff_le, gt_iff_lt] at hc4
    refine WP.seq fun K5 hK5 => ?_
    refine WP.reg tabOk rfl ?_
    refine u_step (o_assign rfl ?_)
    refine u_nil ?_
    refine hK5 _ ?_
    refine WP.ret ?_
    refine ret_ok rfl ?_ (by omega) (fun _ _ => rfl)
    -- ret 1
    refine congrArg (D.int .i64) ?_
    simp only [checkD]
    clear hK1 hK2 hK3 hK5
    grind
  ·
    try simp only [Q0, Q1, Q2, Q3, Q4, Q5, Q6, Q7, Q8, ge_iff_le, gt_iff_lt] at hc4
    refine WP.skip ?_
    refine hK2 _ ?_
    refine WP.seq fun K6 hK6 => ?_
    refine WP.seq fun K7 hK7 => ?_
    refine WP.reg tabOk rfl ?_
    refine u_step (o_assign rfl ?_)
    refine u_nil ?_
    refine hK7 _ ?_
    refine WP.block ?_
    refine WP.loopL (ι := Nat) (fun i => ⟨al [(0, .d (.sl 8 (l.map encD))), (3, .d (.int .i64 i))], o, nk⟩) (fun i => i ≤ l.length ∧ (l.take i).all mayD = true) (fun i => l.length - i) (fun i hA => ?_) 0 ?_ ?_
    ·
      obtain ⟨hle_i, hin_i⟩ := hA
      refine WP.seq fun K8 hK8 => ?_
      refine WP.seq fun K9 hK9 => ?_
      refine WP.reg tabOk rfl ?_
      refine u_step (o_move rfl ?_)
      refine u_step (o_move rfl ?_)
      refine u_step (o_len_sl rfl th28 rfl ?_)
      refine u_step (o_bin_int rfl rfl (by decide) rfl ?_)
      refine u_nil ?_
      refine hK9 _ ?_
      refine WP.cond rfl (fun hc10 => ?_) (fun hc10 => ?_)
      ·
        try simp only [Q0, Q1, Q2, Q3, Q4, Q5, Q6, Q7, Q8, ge_iff_le, gt_iff_lt] at hc10
        refine WP.skip ?_
        refine hK8 _ ?_
        refine WP.seq fun K11 hK11 => ?_
        refine WP.block ?_
        refine WP.seq fun K12 hK12 => ?_
        refine WP.reg tabOk rfl ?_
        refine u_step (o_move rfl ?_)
        refine u_step (o_move rfl ?_)
        first | refine u_step (o_ia_map rfl rfl th28 rfl th83 rfl (by omega) ?_) | refine u_step (o_ia_vs rfl rfl th28 rfl th83 rfl (by omega) ?_)
        refine u_step (o_ld_el rfl th83 rfl rfl ?_)
        refine u_step (o_pcall (s79 l[i] (hl (by omega) _ (List.getElem_mem _))) rfl ?_)
        refine u_step (o_not rfl ?_)
        refine u_nil ?_
        refine hK12 _ ?_
        refine WP.cond rfl (fun hc13 => ?_) (fun hc13 => ?_)
        ·
          try simp only [Q0, Q1, Q2, Q3, Q4, Q5, Q6, Q7, Q8, ge_iff_le, gt_iff_lt] at hc13
          refine WP.seq fun K14 hK14 => ?_
          refine WP.reg tabOk rfl ?_
          refine u_step (o_assign rfl ?_)
          refine u_nil ?_
          refine hK14 _ ?_
          refine WP.ret ?_
          refine ret_ok rfl ?_ (by omega) (fun _ _ => rfl)
          -- ret 2
          have h1 := all_false (p := mayD) (by omega : i < l.length) (by simpa using hc13)
          refine congrArg (D.int .i64) ?_
          simp only [checkD, h1]
          grind
        ·
          try simp only [Q0, Q1, Q2, Q3, Q4, Q5, Q6, Q7, Q8, ge_iff_le, gt_iff_lt] at hc13
          refine WP.skip ?_
          refine hK11 _ ?_
          refine WP.reg tabOk rfl ?_
          refine u_step (o_move rfl ?_)
          refine u_step (o_bin_int rfl rfl (by decide) rfl ?_)
          refine u_step (o_assign rfl ?_)
          refine u_nil ?_
          -- back
          refine ⟨i + 1, ⟨by omega, ?_⟩, by omega, ?_⟩
          · rw [all_snoc (by omega), hin_i]
            simpa using hc13
          · refine Le.al ?_
            simp only [List.forall_mem_cons]
            exact ⟨rfl, cnt (by omega), by simp⟩
      ·
        try simp only [Q0, Q1, Q2, Q3, Q4, Q5, Q6, Q7, Q8, ge_iff_le, gt_iff_lt] at hc10
        refine WP.exit ?_
        refine hK6 _ ?_
        refine WP.seq fun K15 hK15 => ?_
        refine WP.reg tabOk rfl ?_
        refine u_step (o_assign rfl ?_)
        refine u_nil ?_
        refine hK15 _ ?_
        refine WP.ret ?_
        refine ret_ok rfl ?_ (by omega) (fun _ _ => rfl)
        -- ret 3
        have h1 := all_true (by omega) hin_i
        refine congrArg (D.int .i64) ?_
        simp only [checkD, h1]
        grind
    ·
      simp
    ·
      refine Le.al ?_
      simp only [List.forall_mem_cons]
      exact ⟨rfl, rfl, by simp⟩

end Go.Proofs.YtpkcbdhjnnnkbaaGreat.Abs

set_option linter.unusedVariables false
set_option linter.unusedSimpArgs false
set_option maxRecDepth 10000
namespace Go.Proofs.YtpkcbdhjnnnkbaaGreat.Abs
open Go
def touchD (l : List Dlt) (p : List Str) : Bool := l.any fun d => meetV d.path p

theorem fn125 : FnOk Tryz.prog 125 8 [3] (bodyOf Tryz.f125) := ⟨Tryz.f125, Tryz.func125, by kernel_rfl, by decide, by kernel_rfl, by kernel_rfl⟩
theorem s125 (d : Dlt) (p : List Str) {o : Nat → Option AO} {nk k : Nat} (hkc : o k = some (.box [.d (.sl 1 (p.map .str))])) (hkl : k < nk) : Spec Tryz.prog 125 [.d (encD d), .loc k 0] o nk (fun r' o' nk' => r' = .d (.bool (meetV d.path p)) ∧ o' = o ∧ nk' = nk) := by
  refine Spec.pure (fun _ => trivial) rfl (Spec.of_body fn125 (by simp) ?_)
  refine WP.seq fun K1 hK1 => ?_
  refine WP.reg tabOk rfl ?_
  refine u_step (g_box rfl fun o2 hb2 hk2 => ?_)
  have hkc_2 := (hk2 _ (by omega)).trans hkc
  refine u_step (o_assign rfl ?_)
  refine u_nil ?_
  refine hK1 _ ?_
  refine WP.seq fun K3 hK3 => ?_
  refine WP.reg tabOk rfl ?_
  refine u_step (o_fa_loc rfl th83 rfl rfl th22 (by decide) hb2 ?_)
  refine u_step (o_ld_loc rfl th22 rfl hb2 rfl ?_)
  refine u_step (o_ld_loc rfl th22 rfl hkc_2 rfl ?_)
  refine u_step (o_pcall (s126 _ _) rfl ?_)
  refine u_step (o_assign rfl ?_)
  refine u_nil ?_
  refine hK3 _ ?_
  refine WP.ret ?_
  refine ret_ok rfl ?_ (by omega) (fun t ht => (hk2 t (by omega)))
  -- ret 1
  rfl

theorem fn74 : FnOk Tryz.prog 74 8 [4] (bodyOf Tryz.f74) := ⟨Tryz.f74, Tryz.func74, by kernel_rfl, by decide, by kernel_rfl, by kernel_rfl⟩
theorem s74 (l : List Dlt) (p : List Str) : PSpec Tryz.prog 74 [.d (.sl 8 (l.map encD)), .d (.sl 1 (p.map .str))] (.d (.bool (touchD l p))) := by
  refine PSpec.of fn74 (by simp) fun o nk => ?_
  refine WP.seq fun K1 hK1 => ?_
  refine WP.reg tabOk rfl ?_
  refine u_step (g_box1 rfl rfl fun o2 hb2 hk2 => ?_)
  refine u_step (o_assign rfl ?_)
  refine u_nil ?_
  refine hK1 _ ?_
  refine WP.seq fun K3 hK3 => ?_
  refine WP.reg tabOk rfl ?_
  refine u_step (o_move rfl ?_)
  refine u_step (o_mf rfl rfl ?_)
  refine u_step (o_scall (s121 l 125 [] [.loc nk 0] (fun d => meetV d.path p) (fun x hx => s125 x p hb2 (by omega))) rfl ?_)
  refine u_step (o_assign rfl ?_)
  refine u_nil ?_
  refine hK3 _ ?_
  refine WP.ret ?_
  refine ret_ok rfl ?_ (by omega) (fun t ht => (hk2 t (by omega)))
  -- ret 1
  rfl

end Go.Proofs.YtpkcbdhjnnnkbaaGreat.Abs

set_option linter.unusedVariables false
set_option linter.unusedSimpArgs false
set_option maxRecDepth 10000
namespace Go.Proofs.YtpkcbdhjnnnkbaaGreat.Abs
open Go
def freeD (l : List Dlt) : Bool := decide (l.Pairwise fun a b => meetV a.path b.path = false)
theorem meet_comm (a b : List Str) : meetV a b = meetV b a := by simp [meetV, Bool.or_comm]
theorem free_no {l : List Dlt} {i k : Nat} (hi : i < l.length) (hk : k < i) (h : meetV (l[k]'(by omega)).path (l[i]'hi).path = true) : freeD l = false := by
  unfold freeD
  rw [decide_eq_false_iff_not]
  intro hp
  have := (List.pairwise_iff_getElem.1 hp) k i (by omega) hi hk
  rw [h] at this; cases this
theorem free_yes {l : List Dlt} (h : ∀ (a b : Nat) (ha : a < l.length) (hb : b < l.length), a < b → meetV l[a].path l[b].path = false) : freeD l = true := by
  unfold freeD
  rw [decide_eq_true_eq]
  exact List.pairwise_iff_getElem.2 fun i j hi hj hij => h i j hi hj hij

theorem fn118 : FnOk Tryz.prog 118 40 [2] (bodyOf Tryz.f118) := ⟨Tryz.f118, Tryz.func118, by kernel_rfl, by decide, by kernel_rfl, by kernel_rfl⟩
theorem s118 (l : List Dlt) : PSpec Tryz.prog 118 [.d (.sl 8 (l.map encD))] (.d (.bool (freeD l))) := by
  refine PSpec.bd fun hbd => ?_
  have hx : l.length ≤ 9223372036854775807 := by simpa using hbd.1.1
  refine PSpec.of fn118 (by simp) fun o nk => ?_
  refine WP.seq fun K1 hK1 => ?_
  refine WP.reg tabOk rfl ?_
  refine u_step (o_assign rfl ?_)
  refine u_nil ?_
  refine hK1 _ ?_
  refine WP.seq fun K2 hK2 => ?_
  refine WP.seq fun K3 hK3 => ?_
  refine WP.reg tabOk rfl ?_
  refine u_step (o_assign rfl ?_)
  refine u_nil ?_
  refine hK3 _ ?_
  refine WP.block ?_
  refine WP.loopL (ι := Nat) (fun i => ⟨al [(0, .d (.sl 8 (l.map encD))), (3, .d (.int .i64 i))], o, nk⟩) (fun i => i ≤ l.length ∧ ∀ (a b : Nat) (ha : a < l.length) (hb : b < l.length), a < b → b < i → meetV l[a].path l[b].path = false) (fun i => l.length - i) (fun i hA => ?_) 0 ?_ ?_
  ·
    obtain ⟨hle_i, hin_i⟩ := hA
    refine WP.seq fun K4 hK4 => ?_
    refine WP.seq fun K5 hK5 => ?_
    refine WP.reg tabOk rfl ?_
    refine u_step (o_move rfl ?_)
    refine u_step (o_move rfl ?_)
    refine u_step (o_len_sl rfl th28 rfl ?_)
    refine u_step (o_bin_int rfl rfl (by decide) rfl ?_)
    refine u_nil ?_
    refine hK5 _ ?_
    refine WP.cond rfl (fun hc6 => ?_) (fun hc6 => ?_)
    ·
      try simp only [Q0, Q1, Q2, Q3, Q4, Q5, Q6, Q7, Q8, ge_iff_le, gt_iff_lt] at hc6
      refine WP.skip ?_
      refine hK4 _ ?_
      refine WP.seq fun K7 hK7 => ?_
      refine WP.block ?_
      refine WP.seq fun K8 hK8 => ?_
      refine WP.reg tabOk rfl ?_
      refine u_step (o_assign rfl ?_)
      refine u_nil ?_
      refine hK8 _ ?_
      refine WP.block ?_
      refine WP.loopL (ι := Nat) (fun j => ⟨al [(0, .d (.sl 8 (l.map encD))), (3, .d (.int .i64 i)), (4, .d (.int .i64 j))], o, nk⟩) (fun j => j ≤ i ∧ ∀ (a : Nat) (ha : a < l.length), a < j → meetV l[a].path l[i].path = false) (fun j => i - j) (fun j hA => ?_) 0 ?_ ?_
      ·
        obtain ⟨hle_j, hin_j⟩ := hA
        refine WP.seq fun K9 hK9 => ?_
        refine WP.seq fun K10 hK10 => ?_
        refine WP.reg tabOk rfl ?_
        refine u_step (o_move rfl ?_)
        refine u_step (o_move rfl ?_)
        refine u_step (o_bin_int rfl rfl (by decide) rfl ?_)
        refine u_nil ?_
        refine hK10 _ ?_
        refine WP.cond rfl (fun hc11 => ?_) (fun hc11 => ?_)
        ·
          try simp only [Q0, Q1, Q2, Q3, Q4, Q5, Q6, Q7, Q8, ge_iff_le, gt_iff_lt] at hc11
          refine WP.skip ?_
          refine hK9 _ ?_
          refine WP.seq fun K12 hK12 => ?_
          refine WP.block ?_
          refine WP.seq fun K13 hK13 => ?_
          refine WP.drw tabOk (by kernel_rfl) rfl (by kernel_rfl) ?_
          refine d_step (o_move rfl ⟨rfl, rfl, rfl⟩) ?_
          refine d_step (o_move rfl ⟨rfl, rfl, rfl⟩) ?_
          first | refine d_step (o_ia_map rfl rfl th28 rfl th83 rfl (by omega) ⟨rfl, rfl, rfl⟩) ?_ | refine d_step (o_ia_vs rfl rfl th28 rfl th83 rfl (by omega) ⟨rfl, rfl, rfl⟩) ?_
          refine d_step (o_fa_el rfl th83 rfl rfl th22 (by decide) rfl ⟨rfl, rfl, rfl⟩) ?_
          refine d_step (o_ld_el rfl th22 rfl rfl ⟨rfl, rfl, rfl⟩) ?_
          refine d_step (o_move rfl ⟨rfl, rfl, rfl⟩) ?_
          refine d_step (o_move rfl ⟨rfl, rfl, rfl⟩) ?_
          first | refine d_step (o_ia_map rfl rfl th28 rfl th83 rfl (by omega) ⟨rfl, rfl, rfl⟩) ?_ | refine d_step (o_ia_vs rfl rfl th28 rfl th83 rfl (by omega) ⟨rfl, rfl, rfl⟩) ?_
          refine d_step (o_fa_el rfl th83 rfl rfl th22 (by decide) rfl ⟨rfl, rfl, rfl⟩) ?_
          refine d_step (o_ld_el rfl th22 rfl rfl ⟨rfl, rfl, rfl⟩) ?_
          refine d_step (o_pcall (s63 _ _) rfl ⟨rfl, rfl, rfl⟩) ?_
          refine d_step (o_move rfl ⟨rfl, rfl, rfl⟩) ?_
          apply d_guard
          · exact GC.f _
          · intro hg
            refine o_move rfl ⟨rfl, rfl, rfl⟩
          apply d_guard
          · exact GC.f _
          · intro hg
            refine o_move rfl ⟨rfl, rfl, rfl⟩
          apply d_guard
          · exact GC.f _
          · intro hg; try simp only [hg, cnd_true]; try simp only [hg, cnd_true, Bool.true_and]
            have hg2 := hg; try simp only [Q0, Q1, Q2, Q3, Q4, Q5, Q6, Q9, Qa, Qb, Qc, Qd] at hg2
            first | refine o_ia_map rfl rfl th28 rfl th83 rfl (by omega) ⟨rfl, rfl, rfl⟩ | refine o_ia_vs rfl rfl th28 rfl th83 rfl (by omega) ⟨rfl, rfl, rfl⟩
          apply d_guard
          · exact GC.f _
          · intro hg; try simp only [hg, cnd_true]; try simp only [hg, cnd_true, Bool.true_and]
            refine o_fa_el rfl th83 rfl rfl th22 (by decide) rfl ⟨rfl, rfl, rfl⟩
          apply d_guard
          · exact GC.f _
          · intro hg; try simp only [hg, cnd_true]; try simp only [hg, cnd_true, Bool.true_and]
            refine o_ld_el rfl th22 rfl rfl ⟨rfl, rfl, rfl⟩
          apply d_guard
          · exact GC.f _
          · intro hg
            refine o_move rfl ⟨rfl, rfl, rfl⟩
          apply d_guard
          · exact GC.f _
          · intro hg
            refine o_move rfl ⟨rfl, rfl, rfl⟩
          apply d_guard
          · exact GC.f _
          · intro hg; try simp only [hg, cnd_true]; try simp only [hg, cnd_true, Bool.true_and]
            have hg2 := hg; try simp only [Q0, Q1, Q2, Q3, Q4, Q5, Q6, Q9, Qa, Qb, Qc, Qd] at hg2
            first | refine o_ia_map rfl rfl th28 rfl th83 rfl (by omega) ⟨rfl, rfl, rfl⟩ | refine o_ia_vs rfl rfl th28 rfl th83 rfl (by omega) ⟨rfl, rfl, rfl⟩
          apply d_guard
          · exact GC.f _
          · intro hg; try simp only [hg, cnd_true]; try simp only [hg, cnd_true, Bool.true_and]
            refine o_fa_el rfl th83 rfl rfl th22 (by decide) rfl ⟨rfl, rfl, rfl⟩
          apply d_guard
          · exact GC.f _
          · intro hg; try simp only [hg, cnd_true]; try simp only [hg, cnd_true, Bool.true_and]
            refine o_ld_el rfl th22 rfl rfl ⟨rfl, rfl, rfl⟩
          apply d_guard
          · exact GC.f _
          · intro hg; try simp only [hg, cnd_true]; try simp only [hg, cnd_true, Bool.true_and]
            refine o_pcall (s63 _ _) rfl ⟨rfl, rfl, rfl⟩
          refine d_step (o_pick_or rfl rfl rfl ⟨rfl, rfl, rfl⟩) ?_
          refine d_nil ?_
          refine hK13 _ ?_
          refine WP.cond rfl (fun hc14 => ?_) (fun hc14 => ?_)
          ·
            try simp only [Q0, Q1, Q2, Q3, Q4, Q5, Q6, Q7, Q8, ge_iff_le, gt_iff_lt] at hc14
            refine WP.seq fun K15 hK15 => ?_
            refine WP.reg tabOk rfl ?_
            refine u_step (o_assign rfl ?_)
            refine u_nil ?_
            refine hK15 _ ?_
            refine WP.ret ?_
            refine ret_ok rfl ?_ (by omega) (fun _ _ => rfl)
            -- ret 1
            rw [free_no (i := i) (k := j) (by omega) (by omega) (by rw [meet_comm]; exact hc14)]
          ·
            try simp only [Q0, Q1, Q2, Q3, Q4, Q5, Q6, Q7, Q8, ge_iff_le, gt_iff_lt] at hc14
            refine WP.skip ?_
            refine hK12 _ ?_
            refine WP.reg tabOk rfl ?_
            refine u_step (o_move rfl ?_)
            refine u_step (o_bin_int rfl rfl (by decide) rfl ?_)
            refine u_step (o_assign rfl ?_)
            refine u_nil ?_
            -- back
            refine ⟨j + 1, ⟨by omega, ?_⟩, by omega, ?_⟩
            · intro a ha h1
              by_cases haj : a = j
              · subst haj; rw [meet_comm]; exact hc14
              · exact hin_j a ha (by omega)
            · refine Le.al ?_
              simp only [List.forall_mem_cons]
              exact ⟨rfl, rfl, cnt (by omega), by simp⟩
        ·
          try simp only [Q0, Q1, Q2, Q3, Q4, Q5, Q6, Q7, Q8, ge_iff_le, gt_iff_lt] at hc11
          refine WP.exit ?_
          refine hK7 _ ?_
          refine WP.reg tabOk rfl ?_
          refine u_step (o_move rfl ?_)
          refine u_step (o_bin_int rfl rfl (by decide) rfl ?_)
          refine u_step (o_assign rfl ?_)
          refine u_nil ?_
          -- back
          refine ⟨i + 1, ⟨by omega, ?_⟩, by omega, ?_⟩
          · intro a b ha hb h1 h2
            by_cases hbi : b = i
            · subst hbi; exact hin_j a ha (by omega)
            · exact hin_i a b ha hb h1 (by omega)
          · refine Le.al ?_
            simp only [List.forall_mem_cons]
            exact ⟨rfl, cnt (by omega), by simp⟩
      ·
        simp
      ·
        refine Le.al ?_
        simp only [List.forall_mem_cons]
        exact ⟨rfl, rfl, rfl, by simp⟩
    ·
      try simp only [Q0, Q1, Q2, Q3, Q4, Q5, Q6, Q7, Q8, ge_iff_le, gt_iff_lt] at hc6
      refine WP.exit ?_
      refine hK2 _ ?_
      refine WP.seq fun K16 hK16 => ?_
      refine WP.reg tabOk rfl ?_
      refine u_step (o_assign rfl ?_)
      refine u_nil ?_
      refine hK16 _ ?_
      refine WP.ret ?_
      refine ret_ok rfl ?_ (by omega) (fun _ _ => rfl)
      -- ret 2
      rw [free_yes fun a b ha hb h1 => hin_i a b ha hb h1 (by omega)]
  ·
    simp
  ·
    refine Le.al ?_
    simp only [List.forall_mem_cons]
    exact ⟨rfl, rfl, by simp⟩

end Go.Proofs.YtpkcbdhjnnnkbaaGreat.Abs

set_option linter.unusedVariables false
set_option linter.unusedSimpArgs false
set_option maxRecDepth 10000
namespace Go.Proofs.YtpkcbdhjnnnkbaaGreat.Abs
open Go
theorem s74t (l : List Dlt) (p : List Str) (m : Nat) : PSpec Tryz.prog 74 [.d (.sl 8 (((l.map encD).take m).drop 0)), .d (.sl 1 (p.map .str))] (.d (.bool (touchD (l.take m) p))) := by
  have := s74 (l.take m) p
  rwa [List.map_take] at this
theorem touch_yes {l : List Dlt} {i : Nat} {p : List Str} (h : touchD (l.take i) p = true) : ∃ (k : Nat) (hk : k < l.length), k < i ∧ meetV l[k].path p = true := by
  obtain ⟨d, hd, h1⟩ := List.any_eq_true.1 h
  obtain ⟨k, hk, he⟩ := List.mem_iff_getElem.1 hd
  rw [List.getElem_take] at he
  have hki : k < i ∧ k < l.length := by simp at hk; omega
  exact ⟨k, hki.2, hki.1, by rw [he]; exact h1⟩
theorem touch_no {l : List Dlt} {i : Nat} {p : List Str} (h : touchD (l.take i) p = false) {k : Nat} (hk : k < l.length) (hki : k < i) : meetV l[k].path p = false := by
  have h1 := List.any_eq_false.1 h (l[k]) (List.mem_iff_getElem.2 ⟨k, by simp; omega, by rw [List.getElem_take]⟩)
  simpa using h1

theorem fn71 : FnOk Tryz.prog 71 19 [2] (bodyOf Tryz.f71) := ⟨Tryz.f71, Tryz.func71, by kernel_rfl, by decide, by kernel_rfl, by kernel_rfl⟩
theorem s71 (l : List Dlt) : PSpec Tryz.prog 71 [.d (.sl 8 (l.map encD))] (.d (.bool (freeD l))) := by
  refine PSpec.bd fun hbd => ?_
  have hx : l.length ≤ 9223372036854775807 := by simpa using hbd.1.1
  refine PSpec.of fn71 (by simp) fun o nk => ?_
  refine WP.seq fun K1 hK1 => ?_
  refine WP.reg tabOk rfl ?_
  refine u_step (o_assign rfl ?_)
  refine u_nil ?_
  refine hK1 _ ?_
  refine WP.seq fun K2 hK2 => ?_
  refine WP.seq fun K3 hK3 => ?_
  refine WP.reg tabOk rfl ?_
  refine u_step (o_move rfl ?_)
  refine u_step (o_len_sl rfl th28 rfl ?_)
  refine u_step (o_move rfl ?_)
  refine u_nil ?_
  refine hK3 _ ?_
  refine WP.block ?_
  refine WP.loopL (ι := Nat × (Nat → Option AO) × Nat) (fun ⟨i, o2, nk2⟩ => ⟨al [(0, .d (.sl 8 (l.map encD))), (5, .d (.sl 8 (l.map encD))), (6, .d (.int .i64 (l.map encD).length)), (7, .d (.int .i64 i))], o2, nk2⟩) (fun ⟨i, o2, nk2⟩ => i ≤ l.length ∧ nk ≤ nk2 ∧ (∀ t, t < nk → o2 t = o t) ∧ ∀ (a b : Nat) (ha : a < l.length) (hb : b < l.length), a < b → b < i → meetV (l[a]'ha).path (l[b]'hb).path = false) (fun ⟨i, o2, nk2⟩ => l.length - i) (fun ⟨i, o2, nk2⟩ hA => ?_) ⟨0, o, nk⟩ ?_ ?_
  ·
    obtain ⟨hle, hnk, hfr, hin⟩ := hA
    refine WP.seq fun K4 hK4 => ?_
    refine WP.reg tabOk rfl ?_
    refine u_step (o_bin_int rfl rfl (by decide) rfl ?_)
    refine u_nil ?_
    refine hK4 _ ?_
    refine WP.seq fun K5 hK5 => ?_
    refine WP.cond rfl (fun hc6 => ?_) (fun hc6 => ?_)
    ·
      try simp only [Q0, Q1, Q2, Q3, Q4, Q5, Q6, Q7, Q8, ge_iff_le, gt_iff_lt] at hc6
      refine WP.skip ?_
      refine hK5 _ ?_
      refine WP.seq fun K7 hK7 => ?_
      refine WP.block ?_
      refine WP.seq fun K8 hK8 => ?_
      refine WP.reg tabOk rfl ?_
      refine u_step (o_move rfl ?_)
      first | refine u_step (o_ia_map rfl rfl th28 rfl th83 rfl (by omega) ?_) | refine u_step (o_ia_vs rfl rfl th28 rfl th83 rfl (by omega) ?_)
      refine u_step (o_ld_el rfl th83 rfl rfl ?_)
      refine u_step (g_alloc th83 rfl fun o9 hb9 hk9 => ?_)
      refine u_step (o_assign rfl ?_)
      refine u_step0 (g_sta rfl rfl th83 rfl hb9 (by first | (simp; done) | (simp [D.leaves, D.width, valCells]; done) | decide) fun o10 hb10 hk10 => ?_)
      refine u_nil ?_
      refine hK8 _ ?_
      refine WP.seq fun K11 hK11 => ?_
      refine WP.drw tabOk (by kernel_rfl) rfl (by kernel_rfl) ?_
      refine d_step (o_move rfl ⟨rfl, rfl, rfl⟩) ?_
      refine d_step (o_move rfl ⟨rfl, rfl, rfl⟩) ?_
      refine d_step (o_sl_sl (m := i) (p := 0) rfl th28 rfl th83 rfl (bnd_nat (by simp only [List.length_map]; omega)) rfl ⟨rfl, rfl, rfl⟩) ?_
      refine d_step (o_fa_loc rfl th83 rfl rfl th22 (by decide) hb10 ⟨rfl, rfl, rfl⟩) ?_
      refine d_step (o_ld_loc rfl th22 rfl hb10 rfl ⟨rfl, rfl, rfl⟩) ?_
      refine d_step (o_pcall (s74t l l[i].path i) rfl ⟨rfl, rfl, rfl⟩) ?_
      refine d_nil ?_
      refine hK11 _ ?_
      refine WP.cond rfl (fun hc12 => ?_) (fun hc12 => ?_)
      ·
        try simp only [Q0, Q1, Q2, Q3, Q4, Q5, Q6, Q7, Q8, ge_iff_le, gt_iff_lt] at hc12
        refine WP.seq fun K13 hK13 => ?_
        refine WP.reg tabOk rfl ?_
        refine u_step (o_assign rfl ?_)
        refine u_nil ?_
        refine hK13 _ ?_
        refine WP.ret ?_
        refine ret_ok rfl ?_ (by omega) (fun t ht => (hk10 t (by omega)).trans ((hk9 t (by omega)).trans ((hfr t (by omega)))))
        -- ret 1
        obtain ⟨k, hk, hki, hm⟩ := touch_yes hc12
        rw [free_no (i := i) (k := k) (by omega) hki hm]
      ·
        try simp only [Q0, Q1, Q2, Q3, Q4, Q5, Q6, Q7, Q8, ge_iff_le, gt_iff_lt] at hc12
        refine WP.skip ?_
        refine hK7 _ ?_
        refine WP.reg tabOk rfl ?_
        refine u_step (o_bin_int rfl rfl (by decide) rfl ?_)
        refine u_step (o_move rfl ?_)
        refine u_nil ?_
        -- back
        refine ⟨⟨i + 1, o10, (nk2 + 1)⟩, ⟨by omega, by omega, (fun t ht => (hk10 t (by omega)).trans ((hk9 t (by omega)).trans ((hfr t (by omega))))), ?_⟩, by simp only; omega, ?_⟩
        · intro a b ha hb h1 h2
          by_cases hbi : b = i
          · subst hbi; exact touch_no hc12 ha h1
          · exact hin a b ha hb h1 (by omega)
        · refine Le.al ?_
          simp only [List.forall_mem_cons]
          exact ⟨rfl, rfl, rfl, cnt (by omega), by simp⟩
    ·
      try simp only [Q0, Q1, Q2, Q3, Q4, Q5, Q6, Q7, Q8, ge_iff_le, gt_iff_lt] at hc6
      refine WP.exit ?_
      refine hK2 _ ?_
      refine WP.seq fun K14 hK14 => ?_
      refine WP.reg tabOk rfl ?_
      refine u_step (o_assign rfl ?_)
      refine u_nil ?_
      refine hK14 _ ?_
      refine WP.ret ?_
      refine ret_ok rfl ?_ (by omega) (fun t ht => (hfr t (by omega)))
      -- ret 2
      rw [free_yes fun a b ha hb h1 => hin a b ha hb h1 (by omega)]
  ·
    refine ⟨by simp, by omega, (fun _ _ => rfl), by simp⟩
  ·
    refine Le.al ?_
    simp only [List.forall_mem_cons]
    exact ⟨rfl, rfl, rfl, rfl, by simp⟩

end Go.Proofs.YtpkcbdhjnnnkbaaGreat.Abs

set_option linter.unusedVariables false
set_option linter.unusedSimpArgs false
set_option maxRecDepth 10000
namespace Go.Proofs.YtpkcbdhjnnnkbaaGreat.Abs
open Go
def cmpI (a b : Int) : Int := if a < b then -1 else if b < a then 1 else 0
def orI : List Int → Int
  | [] => 0
  | x :: r => if x = 0 then orI r else x
theorem orI_at : ∀ {l : List Int} {i : Nat} (h : i < l.length) (_ : ∀ x ∈ l.take i, x = 0) (_ : l[i]'h ≠ 0), orI l = l[i]'h
  | x :: l, 0, _, _, hn => by simp only [orI, List.getElem_cons_zero] at *; rw [if_neg hn]
  | x :: l, i + 1, h, hz, hn => by
    have h0 : x = 0 := hz x (by simp)
    simp only [orI, if_pos h0, List.getElem_cons_succ]
    exact orI_at (by simpa using h) (fun y hy => hz y (by simp [hy])) (by simpa using hn)
theorem orI_none : ∀ {l : List Int}, (∀ x ∈ l, x = 0) → orI l = 0
  | [], _ => rfl
  | x :: l, h => by
    simp only [orI, if_pos (h x (by simp))]
    exact orI_none fun y hy => h y (by simp [hy])

theorem fn210 : FnOk Tryz.prog 210 6 [2] (bodyOf Tryz.f210) := ⟨Tryz.f210, Tryz.func210, by kernel_rfl, by decide, by kernel_rfl, by kernel_rfl⟩
theorem s210 (x : Int) : PSpec Tryz.prog 210 [.d (.int .i64 x)] (.d (.bool false)) := by
  refine PSpec.of fn210 (by simp) fun o nk => ?_
  refine WP.seq fun K1 hK1 => ?_
  refine WP.reg tabOk rfl ?_
  refine u_step (o_assign rfl ?_)
  refine u_nil ?_
  refine hK1 _ ?_
  refine WP.seq fun K2 hK2 => ?_
  refine WP.reg tabOk rfl ?_
  refine u_step (o_move rfl ?_)
  refine u_step (o_move rfl ?_)
  refine u_step (o_bin_int rfl rfl (by decide) rfl ?_)
  refine u_step (o_assign rfl ?_)
  refine u_nil ?_
  refine hK2 _ ?_
  refine WP.ret ?_
  refine ret_ok rfl ?_ (by omega) (fun _ _ => rfl)
  -- ret 1
  simp

theorem fn206 : FnOk Tryz.prog 206 20 [4] (bodyOf Tryz.f206) := ⟨Tryz.f206, Tryz.func206, by kernel_rfl, by decide, by kernel_rfl, by kernel_rfl⟩
theorem s206 (a b : Int) : PSpec Tryz.prog 206 [.d (.int .i64 a), .d (.int .i64 b)] (.d (.int .i64 (cmpI a b))) := by
  refine PSpec.of fn206 (by simp) fun o nk => ?_
  refine WP.seq fun K1 hK1 => ?_
  refine WP.reg tabOk rfl ?_
  refine u_step (o_assign rfl ?_)
  refine u_nil ?_
  refine hK1 _ ?_
  refine WP.seq fun K2 hK2 => ?_
  refine WP.reg tabOk rfl ?_
  refine u_step (o_move rfl ?_)
  refine u_step (o_pcall (s210 _) rfl ?_)
  refine u_step (o_assign rfl ?_)
  refine u_nil ?_
  refine hK2 _ ?_
  refine WP.seq fun K3 hK3 => ?_
  refine WP.reg tabOk rfl ?_
  refine u_step (o_move rfl ?_)
  refine u_step (o_pcall (s210 _) rfl ?_)
  refine u_step (o_assign rfl ?_)
  refine u_nil ?_
  refine hK3 _ ?_
  refine WP.seq fun K4 hK4 => ?_
  refine WP.seq fun K5 hK5 => ?_
  refine WP.reg tabOk rfl ?_
  refine u_step (o_move rfl ?_)
  refine u_nil ?_
  refine hK5 _ ?_
  refine WP.cond rfl (fun hc6 => ?_) (fun hc6 => ?_)
  ·
    try simp only [Q0, Q1, Q2, Q3, Q4, Q5, Q6, Q7, Q8, ge_iff_le, gt_iff_lt] at hc6
    cases hc6
  ·
    try simp only [Q0, Q1, Q2, Q3, Q4, Q5, Q6, Q7, Q8, ge_iff_le, gt_iff_lt] at hc6
    refine WP.skip ?_
    refine hK4 _ ?_
    refine WP.seq fun K7 hK7 => ?_
    refine WP.seq fun K8 hK8 => ?_
    refine WP.reg tabOk rfl ?_
    refine u_step (o_move rfl ?_)
    refine u_nil ?_
    refine hK8 _ ?_
    refine WP.cond rfl (fun hc9 => ?_) (fun hc9 => ?_)
    ·
      try simp only [Q0, Q1, Q2, Q3, Q4, Q5, Q6, Q7, Q8, ge_iff_le, gt_iff_lt] at hc9
      cases hc9
    ·
      try simp only [Q0, Q1, Q2, Q3, Q4, Q5, Q6, Q7, Q8, ge_iff_le, gt_iff_lt] at hc9
      refine WP.skip ?_
      refine hK7 _ ?_
      refine WP.seq fun K10 hK10 => ?_
      refine WP.seq fun K11 hK11 => ?_
      refine WP.reg tabOk rfl ?_
      refine u_step (o_move rfl ?_)
      refine u_step (o_move rfl ?_)
      refine u_step (o_bin_int rfl rfl (by decide) rfl ?_)
      refine u_nil ?_
      refine hK11 _ ?_
      refine WP.cond rfl (fun hc12 => ?_) (fun hc12 => ?_)
      ·
        try simp only [Q0, Q1, Q2, Q3, Q4, Q5, Q6, Q7, Q8, ge_iff_le, gt_iff_lt] at hc12
        refine WP.seq fun K13 hK13 => ?_
        refine WP.reg tabOk rfl ?_
        refine u_step (o_assign rfl ?_)
        refine u_nil ?_
        refine hK13 _ ?_
        refine WP.ret ?_
        refine ret_ok rfl ?_ (by omega) (fun _ _ => rfl)
        -- ret 1
        refine congrArg (D.int .i64) ?_
        simp only [cmpI]
        clear hK1 hK2 hK3 hK4 hK5 hK7 hK8 hK10 hK11 hK13
        grind
      ·
        try simp only [Q0, Q1, Q2, Q3, Q4, Q5, Q6, Q7, Q8, ge_iff_le, gt_iff_lt] at hc12
        refine WP.skip ?_
        refine hK10 _ ?_
        refine WP.seq fun K14 hK14 => ?_
        refine WP.seq fun K15 hK15 => ?_
        refine WP.reg tabOk rfl ?_
        refine u_step (o_move rfl ?_)
        refine u_step (o_move rfl ?_)
        refine u_step (o_bin_int rfl rfl (by decide) rfl ?_)
        refine u_nil ?_
        refine hK15 _ ?_
        refine WP.cond rfl (fun hc16 => ?_) (fun hc16 => ?_)
        ·
          try simp only [Q0, Q1, Q2, Q3, Q4, Q5, Q6, Q7, Q8, ge_iff_le, gt_iff_lt] at hc16
          refine WP.seq fun K17 hK17 => ?_
          refine WP.reg tabOk rfl ?_
          refine u_step (o_assign rfl ?_)
          refine u_nil ?_
          refine hK17 _ ?_
          refine WP.ret ?_
          refine ret_ok rfl ?_ (by omega) (fun _ _ => rfl)
          -- ret 2
          refine congrArg (D.int .i64) ?_
          simp only [cmpI]
          clear hK1 hK2 hK3 hK4 hK5 hK7 hK8 hK10 hK11 hK14 hK15 hK17
          grind
        ·
          try simp only [Q0, Q1, Q2, Q3, Q4, Q5, Q6, Q7, Q8, ge_iff_le, gt_iff_lt] at hc16
          refine WP.skip ?_
          refine hK14 _ ?_
          refine WP.seq fun K18 hK18 => ?_
          refine WP.reg tabOk rfl ?_
          refine u_step (o_assign rfl ?_)
          refine u_nil ?_
          refine hK18 _ ?_
          refine WP.ret ?_
          refine ret_ok rfl ?_ (by omega) (fun _ _ => rfl)
          -- ret 3
          refine congrArg (D.int .i64) ?_
          simp only [cmpI]
          clear hK1 hK2 hK3 hK4 hK5 hK7 hK8 hK10 hK11 hK14 hK15 hK18
          grind

theorem fn205 : FnOk Tryz.prog 205 18 [2] (bodyOf Tryz.f205) := ⟨Tryz.f205, Tryz.func205, by kernel_rfl, by decide, by kernel_rfl, by kernel_rfl⟩
theorem s205 (l : List Int) : PSpec Tryz.prog 205 [.d (.sl 1 (l.map (D.int .i64)))] (.d (.int .i64 (orI l))) := by
  refine PSpec.bd fun hbd => ?_
  have hx : l.length ≤ 9223372036854775807 := by simpa using hbd.1.1
  refine PSpec.of fn205 (by simp) fun o nk => ?_
  refine WP.seq fun K1 hK1 => ?_
  refine WP.reg tabOk rfl ?_
  refine u_step (o_assign rfl ?_)
  refine u_nil ?_
  refine hK1 _ ?_
  refine WP.seq fun K2 hK2 => ?_
  refine WP.reg tabOk rfl ?_
  refine u_step (o_assign rfl ?_)
  refine u_nil ?_
  refine hK2 _ ?_
  refine WP.seq fun K3 hK3 => ?_
  refine WP.seq fun K4 hK4 => ?_
  refine WP.reg tabOk rfl ?_
  refine u_step (o_move rfl ?_)
  refine u_step (o_len_sl rfl th37 rfl ?_)
  refine u_step (o_move rfl ?_)
  refine u_nil ?_
  refine hK4 _ ?_
  refine WP.block ?_
  refine WP.loopL (ι := Nat) (fun i => ⟨al [(3, .d (.int .i64 0)), (6, .d (.sl 1 (l.map (D.int .i64)))), (7, .d (.int .i64 (l.map (D.int .i64)).length)), (8, .d (.int .i64 i))], o, nk⟩) (fun i => i ≤ l.length ∧ ∀ x ∈ l.take i, x = 0) (fun i => l.length - i) (fun i hA => ?_) 0 ?_ ?_
  ·
    obtain ⟨hle_i, hin_i⟩ := hA
    refine WP.seq fun K5 hK5 => ?_
    refine WP.reg tabOk rfl ?_
    refine u_step (o_bin_int rfl rfl (by decide) rfl ?_)
    refine u_nil ?_
    refine hK5 _ ?_
    refine WP.seq fun K6 hK6 => ?_
    refine WP.cond rfl (fun hc7 => ?_) (fun hc7 => ?_)
    ·
      try simp only [Q0, Q1, Q2, Q3, Q4, Q5, Q6, Q7, Q8, ge_iff_le, gt_iff_lt] at hc7
      refine WP.skip ?_
      refine hK6 _ ?_
      refine WP.seq fun K8 hK8 => ?_
      refine WP.block ?_
      refine WP.seq fun K9 hK9 => ?_
      refine WP.reg tabOk rfl ?_
      first | refine u_step (o_ia_map rfl rfl th37 rfl th3 rfl (by omega) ?_) | refine u_step (o_ia_vs rfl rfl th37 rfl th3 rfl (by omega) ?_)
      refine u_step (o_ld_el rfl th3 rfl rfl ?_)
      refine u_step (o_assign rfl ?_)
      refine u_nil ?_
      refine hK9 _ ?_
      refine WP.seq fun K10 hK10 => ?_
      refine WP.reg tabOk rfl ?_
      refine u_step (o_move rfl ?_)
      refine u_step (o_move rfl ?_)
      refine u_step (o_bin_int rfl rfl (by decide) rfl ?_)
      refine u_nil ?_
      refine hK10 _ ?_
      refine WP.cond rfl (fun hc11 => ?_) (fun hc11 => ?_)
      ·
        try simp only [Q0, Q1, Q2, Q3, Q4, Q5, Q6, Q7, Q8, ge_iff_le, gt_iff_lt] at hc11
        refine WP.seq fun K12 hK12 => ?_
        refine WP.reg tabOk rfl ?_
        refine u_step (o_move rfl ?_)
        refine u_step (o_assign rfl ?_)
        refine u_nil ?_
        refine hK12 _ ?_
        refine WP.ret ?_
        refine ret_ok rfl ?_ (by omega) (fun _ _ => rfl)
        -- ret 1
        rw [orI_at (by omega) hin_i (by simpa using hc11)]
      ·
        try simp only [Q0, Q1, Q2, Q3, Q4, Q5, Q6, Q7, Q8, ge_iff_le, gt_iff_lt] at hc11
        refine WP.skip ?_
        refine hK8 _ ?_
        refine WP.reg tabOk rfl ?_
        refine u_step (o_bin_int rfl rfl (by decide) rfl ?_)
        refine u_step (o_move rfl ?_)
        refine u_nil ?_
        -- back
        refine ⟨i + 1, ⟨by omega, ?_⟩, by omega, ?_⟩
        · rw [List.take_succ_eq_append_getElem (by omega)]
          intro x hx
          rcases List.mem_append.1 hx with h | h
          · exact hin_i x h
          · simp only [List.mem_singleton] at h; subst h; simpa using hc11
        · refine Le.al ?_
          simp only [List.forall_mem_cons]
          exact ⟨rfl, rfl, rfl, cnt (by omega), by simp⟩
    ·
      try simp only [Q0, Q1, Q2, Q3, Q4, Q5, Q6, Q7, Q8, ge_iff_le, gt_iff_lt] at hc7
      refine WP.exit ?_
      refine hK3 _ ?_
      refine WP.seq fun K13 hK13 => ?_
      refine WP.reg tabOk rfl ?_
      refine u_step (o_move rfl ?_)
      refine u_step (o_assign rfl ?_)
      refine u_nil ?_
      refine hK13 _ ?_
      refine WP.ret ?_
      refine ret_ok rfl ?_ (by omega) (fun _ _ => rfl)
      -- ret 2
      rw [orI_none fun x hx => hin_i x (by rwa [List.take_of_length_le (by omega)])]
  ·
    simp
  ·
    refine Le.al ?_
    simp only [List.forall_mem_cons]
    exact ⟨rfl, rfl, rfl, rfl, by simp⟩

end Go.Proofs.YtpkcbdhjnnnkbaaGreat.Abs

set_option linter.unusedVariables false
set_option linter.unusedSimpArgs false
set_option maxRecDepth 10000
namespace Go.Proofs.YtpkcbdhjnnnkbaaGreat.Abs
open Go
/-- The place of a text among texts. -/
def idxS (ns : List Str) (s : Str) : Int := firstI (fun x => decide (s = x)) ns

theorem fn183 : FnOk Tryz.prog 183 19 [4] (bodyOf Tryz.f183) := ⟨Tryz.f183, Tryz.func183, by kernel_rfl, by decide, by kernel_rfl, by kernel_rfl⟩
theorem s183 (ns : List Str) (s : Str) : PSpec Tryz.prog 183 [.d (.sl 1 (ns.map .str)), .d (.str s)] (.d (.int .i64 (idxS ns s))) := by
  refine PSpec.bd fun hbd => ?_
  have hx : ns.length ≤ 9223372036854775807 := by simpa using hbd.1.1
  refine PSpec.of fn183 (by simp) fun o nk => ?_
  refine WP.seq fun K1 hK1 => ?_
  refine WP.reg tabOk rfl ?_
  refine u_step (o_assign rfl ?_)
  refine u_nil ?_
  refine hK1 _ ?_
  refine WP.seq fun K2 hK2 => ?_
  refine WP.seq fun K3 hK3 => ?_
  refine WP.reg tabOk rfl ?_
  refine u_step (o_move rfl ?_)
  refine u_step (o_len_sl rfl th22 rfl ?_)
  refine u_step (o_move rfl ?_)
  refine u_nil ?_
  refine hK3 _ ?_
  refine WP.block ?_
  refine WP.loopL (ι := Nat) (fun i => ⟨al [(0, .d (.sl 1 (ns.map .str))), (1, .d (.str s)), (7, .d (.int .i64 (ns.map D.str).length)), (8, .d (.int .i64 i))], o, nk⟩) (fun i => i ≤ ns.length ∧ ∀ (j : Nat) (hj : j < ns.length), j < i → decide (s = ns[j]) = false) (fun i => ns.length - i) (fun i hA => ?_) 0 ?_ ?_
  ·
    obtain ⟨hle_i, hin_i⟩ := hA
    refine WP.seq fun K4 hK4 => ?_
    refine WP.reg tabOk rfl ?_
    refine u_step (o_bin_int rfl rfl (by decide) rfl ?_)
    refine u_nil ?_
    refine hK4 _ ?_
    refine WP.seq fun K5 hK5 => ?_
    refine WP.cond rfl (fun hc6 => ?_) (fun hc6 => ?_)
    ·
      try simp only [Q0, Q1, Q2, Q3, Q4, Q5, Q6, Q7, Q8, ge_iff_le, gt_iff_lt] at hc6
      refine WP.skip ?_
      refine hK5 _ ?_
      refine WP.seq fun K7 hK7 => ?_
      refine WP.block ?_
      refine WP.seq fun K8 hK8 => ?_
      refine WP.reg tabOk rfl ?_
      refine u_step (o_move rfl ?_)
      refine u_step (o_assign rfl ?_)
      refine u_nil ?_
      refine hK8 _ ?_
      refine WP.seq fun K9 hK9 => ?_
      refine WP.reg tabOk rfl ?_
      refine u_step (o_move rfl ?_)
      refine u_step (o_move rfl ?_)
      refine u_step (o_move rfl ?_)
      first | refine u_step (o_ia_map rfl rfl th22 rfl th9 rfl (by omega) ?_) | refine u_step (o_ia_vs rfl rfl th22 rfl th9 rfl (by omega) ?_)
      refine u_step (o_ld_el rfl th9 rfl rfl ?_)
      refine u_step (o_bin_str rfl rfl rfl ?_)
      refine u_nil ?_
      refine hK9 _ ?_
      refine WP.cond rfl (fun hc10 => ?_) (fun hc10 => ?_)
      ·
        try simp only [Q0, Q1, Q2, Q3, Q4, Q5, Q6, Q7, Q8, ge_iff_le, gt_iff_lt] at hc10
        refine WP.seq fun K11 hK11 => ?_
        refine WP.reg tabOk rfl ?_
        refine u_step (o_move rfl ?_)
        refine u_step (o_assign rfl ?_)
        refine u_nil ?_
        refine hK11 _ ?_
        refine WP.ret ?_
        refine ret_ok rfl ?_ (by omega) (fun _ _ => rfl)
        -- ret 1
        rw [idxS, firstI_at (p := fun x => decide (s = x)) (xs := ns) (i := i) (by omega) (decide_eq_true hc10) hin_i]
      ·
        try simp only [Q0, Q1, Q2, Q3, Q4, Q5, Q6, Q7, Q8, ge_iff_le, gt_iff_lt] at hc10
        refine WP.skip ?_
        refine hK7 _ ?_
        refine WP.reg tabOk rfl ?_
        refine u_step (o_bin_int rfl rfl (by decide) rfl ?_)
        refine u_step (o_move rfl ?_)
        refine u_nil ?_
        -- back
        refine ⟨i + 1, ⟨by omega, ?_⟩, by omega, ?_⟩
        · intro j hj h1
          by_cases h2 : j = i
          · subst h2; exact decide_eq_false hc10
          · exact hin_i j hj (by omega)
        · refine Le.al ?_
          simp only [List.forall_mem_cons]
          exact ⟨rfl, rfl, rfl, cnt (by omega), by simp⟩
    ·
      try simp only [Q0, Q1, Q2, Q3, Q4, Q5, Q6, Q7, Q8, ge_iff_le, gt_iff_lt] at hc6
      refine WP.exit ?_
      refine hK2 _ ?_
      refine WP.seq fun K12 hK12 => ?_
      refine WP.reg tabOk rfl ?_
      refine u_step (o_assign rfl ?_)
      refine u_nil ?_
      refine hK12 _ ?_
      refine WP.ret ?_
      refine ret_ok rfl ?_ (by omega) (fun _ _ => rfl)
      -- ret 2
      rw [idxS, firstI_none (p := fun x => decide (s = x)) (xs := ns) fun j hj => hin_i j hj (by omega)]
  ·
    simp
  ·
    refine Le.al ?_
    simp only [List.forall_mem_cons]
    exact ⟨rfl, rfl, rfl, rfl, by simp⟩

theorem fn155 : FnOk Tryz.prog 155 18 [4] (bodyOf Tryz.f155) := ⟨Tryz.f155, Tryz.func155, by kernel_rfl, by decide, by kernel_rfl, by kernel_rfl⟩
theorem s155 (v : Val) (p : List Str) : PSpec Tryz.prog 155 [.d (encV v), .d (.sl 1 (p.map .str))] (.d (.int .i64 (if v.kind ≠ 7 ∨ mayV v = false then 20 else if pathV p then 0 else 40))) := by
  obtain ⟨kd, it, tx, xs, ns⟩ := v
  refine PSpec.of fn155 (by simp) fun o nk => ?_
  refine WP.seq fun K1 hK1 => ?_
  refine WP.reg tabOk rfl ?_
  refine u_step (g_box rfl fun o2 hb2 hk2 => ?_)
  refine u_step (o_assign rfl ?_)
  refine u_nil ?_
  refine hK1 _ ?_
  refine WP.seq fun K3 hK3 => ?_
  refine WP.block ?_
  refine WP.seq fun K4 hK4 => ?_
  refine WP.reg tabOk rfl ?_
  refine u_step (o_fa_loc rfl th27 rfl rfl th3 (by decide) hb2 ?_)
  refine u_step (o_ld_loc rfl th3 rfl hb2 rfl ?_)
  refine u_step (o_bin_int rfl rfl (by decide) rfl ?_)
  refine u_step (o_move rfl ?_)
  apply u_guard
  · exact GC.f _
  · intro hg
    refine o_ld_agg rfl th27 rfl hb2 rfl rfl rfl ⟨rfl, rfl, rfl⟩
  apply u_guard
  · exact GC.f _
  · intro hg; try simp only [hg, cnd_true]; try simp only [hg, cnd_true, Bool.true_and]
    refine o_pcall (s76 (.mk kd it tx xs ns)) rfl ⟨rfl, rfl, rfl⟩
  apply u_guard
  · exact GC.f _
  · intro hg; try simp only [hg, cnd_true]; try simp only [hg, cnd_true, Bool.true_and]
    refine o_not rfl ⟨rfl, rfl, rfl⟩
  refine u_step (o_pick_or rfl rfl rfl ?_)
  refine u_step (o_assign rfl ?_)
  refine u_nil ?_
  refine hK4 _ ?_
  refine WP.cond rfl (fun hc5 => ?_) (fun hc5 => ?_)
  ·
    try simp only [Q0, Q1, Q2, Q3, Q4, Q5, Q6, Q7, Q8, ge_iff_le, gt_iff_lt] at hc5
    refine WP.seq fun K6 hK6 => ?_
    refine WP.reg tabOk rfl ?_
    refine u_step (o_assign rfl ?_)
    refine u_nil ?_
    refine hK6 _ ?_
    refine WP.ret ?_
    refine ret_ok rfl ?_ (by omega) (fun t ht => (hk2 t (by omega)))
    -- ret 1
    clear hK1 hK3 hK4 hK6
    refine congrArg (D.int .i64) ?_
    simp only [Val.kind]
    grind
  ·
    try simp only [Q0, Q1, Q2, Q3, Q4, Q5, Q6, Q7, Q8, ge_iff_le, gt_iff_lt] at hc5
    refine WP.seq fun K7 hK7 => ?_
    refine WP.reg tabOk rfl ?_
    refine u_step (o_move rfl ?_)
    refine u_step (o_pcall (s56 _) rfl ?_)
    refine u_step (o_not rfl ?_)
    refine u_step (o_assign rfl ?_)
    refine u_nil ?_
    refine hK7 _ ?_
    refine WP.cond rfl (fun hc8 => ?_) (fun hc8 => ?_)
    ·
      try simp only [Q0, Q1, Q2, Q3, Q4, Q5, Q6, Q7, Q8, ge_iff_le, gt_iff_lt] at hc8
      refine WP.seq fun K9 hK9 => ?_
      refine WP.reg tabOk rfl ?_
      refine u_step (o_assign rfl ?_)
      refine u_nil ?_
      refine hK9 _ ?_
      refine WP.ret ?_
      refine ret_ok rfl ?_ (by omega) (fun t ht => (hk2 t (by omega)))
      -- ret 2
      clear hK1 hK3 hK4 hK7 hK9
      refine congrArg (D.int .i64) ?_
      simp only [Val.kind]
      grind
    ·
      try simp only [Q0, Q1, Q2, Q3, Q4, Q5, Q6, Q7, Q8, ge_iff_le, gt_iff_lt] at hc8
      refine WP.skip ?_
      refine hK3 _ ?_
      refine WP.seq fun K10 hK10 => ?_
      refine WP.reg tabOk rfl ?_
      refine u_step (o_assign rfl ?_)
      refine u_nil ?_
      refine hK10 _ ?_
      refine WP.ret ?_
      refine ret_ok rfl ?_ (by omega) (fun t ht => (hk2 t (by omega)))
      -- ret 3
      clear hK1 hK3 hK4 hK7 hK10
      refine congrArg (D.int .i64) ?_
      simp only [Val.kind]
      grind

end Go.Proofs.YtpkcbdhjnnnkbaaGreat.Abs

/- Functions whose results lie in memory. -/
set_option linter.unusedVariables false
set_option linter.unusedSimpArgs false
namespace Go.Proofs.YtpkcbdhjnnnkbaaGreat.Abs
open Go

section
variable {P : Program} {Θ : Tab} {s : St} {a : Act} {w : World} {S : Nat → Prop} {γ : Nat → Value} {op : Oper}
theorem load_now (hΘ : TabOk P Θ) (hf : Fr s a w S γ) {t : TypeId} {x : Operand} {K : SV → Prop} (ho : op.op = .load t x) (h : ldOp Θ s.o t (ev s.sl x) K) :
    ∃ v u, (execOp a.eval op).run P w = .ok (.value u) w ∧ SR w S γ s.o v u ∧ v.lt s.nk ∧ K v := by
  obtain ⟨i, hi, h⟩ := h
  have hT := hΘ t i hi
  have hx := hf.ev x
  have hlx := hf.lt x
  generalize Abs.ev s.sl x = c at h hx hlx
  have hrun : (execOp a.eval op).run P w = ((Instr.loadAt t (a.eval x)).run P w).andThen fun u w' => .ok (.value u) w' := by simp [execOp, ho]
  generalize a.eval x = ux at hx hrun
  cases c with
  | loc k f =>
    obtain ⟨cs, hk, h⟩ := h
    obtain ⟨⟨g, arr, ty, h1, h2, h3, h4⟩, hl⟩ := hf.sto.box k cs hk
    cases hx with
    | loc _ _ v hv =>
      obtain ⟨g', h5, h6⟩ := hv cs hk
      rw [h1] at h5
      simp at h5
      subst h5
      by_cases hag : i.k.agg = true
      · rw [if_pos hag] at h
        obtain ⟨ds, h7, h8, h9, hK⟩ := h
        have h10 := allD_spec h7
        have hlen : ((cs.drop f).take i.sz).length = i.sz := by rw [h10]; simp [h8]
        let us := ((arr.toList.drop f).take i.sz)
        have hus : us.length = i.sz := by
          simp only [us, List.length_take, List.length_drop, Array.length_toList, h3] at hlen ⊢
          exact hlen
        have hcell : ∀ j u, us[j]? = some u → arr[f + j]? = some u ∧ j < i.sz := by
          intro j u hu
          have hj : j < i.sz := by rw [← hus]; exact (List.getElem?_eq_some_iff.1 hu).1
          simp only [us, List.getElem?_take, List.getElem?_drop] at hu
          rw [if_pos hj] at hu
          exact ⟨by simpa using hu, hj⟩
        have hl2 : (loadCells ⟨g, f, none⟩ us.length).run P w = .ok us.toArray w :=
          run_loadCells_list (P := P) w ⟨g, f, none⟩ us (fun j u hu => by rw [Addr.add_mid, cell_at h2]; exact (hcell j u hu).1)
        refine ⟨_, .agg us.toArray, ?_, .d _ _ (.agg ds us h9 (by rw [hus, h8]) fun j d u hd hu => ?_), trivial, hK⟩
        · rw [hrun, h6]
          rw [hus] at hl2
          simp [Instr.loadAt, Instr.sureAddr, loadVar, hT.run_agg, hag, hT.run_size, hl2]
        · obtain ⟨h11, h12⟩ := hcell j u hu
          have h13 : cs[f + j]? = some (.d d) := by
            have : ((cs.drop f).take i.sz)[j]? = some (.d d) := by rw [h10, List.getElem?_map, hd]; rfl
            simpa [List.getElem?_take, List.getElem?_drop, h12] using this
          cases h4 _ _ _ h13 h11 with
          | d _ _ hr => exact hr
      · rw [if_neg hag] at h
        obtain ⟨c, h7, hK⟩ := h
        have hlt : f < arr.size := by rw [h3]; exact (List.getElem?_eq_some_iff.1 h7).1
        have hcell : w.cell? ⟨g, f, none⟩ = some arr[f] := by rw [cell_at h2]; simp [hlt]
        refine ⟨_, arr[f], ?_, (h4 f c _ h7 (by simp [hlt])), (lts_get hl f c h7), hK⟩
        rw [hrun, h6]
        simp [Instr.loadAt, Instr.sureAddr, loadVar, hT.run_agg, hag, hcell]
  | el x0 =>
    obtain ⟨h1, h2, hK⟩ := h
    cases hx with
    | el _ ad v hS hr hc =>
      by_cases hag : i.k.agg = true
      · rw [hag] at h1
        cases hr with
        | agg xs vs h3 h4 h5 =>
          have hl2 : (loadCells ad vs.length).run P w = .ok vs.toArray w :=
            run_loadCells_list (P := P) w ad vs (fun j u hu => hc j u (by simpa [Value.cells] using hu))
          have hsz : vs.length = i.sz := by rw [h4]; exact h2
          rw [hsz] at hl2
          refine ⟨_, .agg vs.toArray, ?_, .d _ _ (.agg xs vs h3 h4 h5), trivial, hK⟩
          rw [hrun]
          simp [Instr.loadAt, Instr.sureAddr, loadVar, hT.run_agg, hag, hT.run_size, hl2]
        | _ => simp [D.leaf] at h1
      · simp only [Bool.not_eq_true] at hag
        rw [hag] at h1
        have hone := hr.leaf_cells (by simpa using h1)
        have hcell : w.cell? ad = some v := by
          have := hc 0 v (by rw [hone]; rfl)
          simpa [Addr.add] using this
        refine ⟨_, v, ?_, .d _ _ hr, trivial, hK⟩
        rw [hrun]
        simp [Instr.loadAt, Instr.sureAddr, loadVar, hT.run_agg, hag, hcell]
  | _ => exact h.elim
end

/-- What a result is, seen from a state. -/
def ResIs (Θ : Tab) (s : St) (r : ResultVar) (v : SV) : Prop :=
  match r with
  | .tmp t => v = s.sl t
  | .cell a t => (∃ k f, s.sl a = .loc k f) ∧ ldOp Θ s.o t (s.sl a) fun x => x = v
def ResL (Θ : Tab) (s : St) : List ResultVar → List SV → Prop
  | [], [] => True
  | r :: rs, v :: vs => ResIs Θ s r v ∧ ResL Θ s rs vs
  | _, _ => False
theorem ResL.length {Θ : Tab} {s : St} : ∀ {rs : List ResultVar} {vs : List SV}, ResL Θ s rs vs → rs.length = vs.length
  | [], [], _ => rfl
  | r :: rs, v :: vs, h => by simp [ResL.length h.2]
  | [], v :: vs, h => h.elim
  | r :: rs, [], h => h.elim

def resF (tmps : Array Value) : ResultVar → Sem Value
  | .tmp t => pure (tmps.getD t undef)
  | .cell a t => do loadVar t (← asAddr (tmps.getD a undef))

theorem load_res {P : Program} {Θ : Tab} {s : St} {a : Act} {w : World} {S : Nat → Prop} {γ : Nat → Value} (hΘ : TabOk P Θ) (hf : Fr s a w S γ) {x t : Nat} {v : SV} (h : ResIs Θ s (.cell x t) v) :
    ∃ u, (resF a.tmps (.cell x t)).run P w = .ok u w ∧ SR w S γ s.o v u ∧ v.lt s.nk := by
  obtain ⟨⟨k, f, hk⟩, hl⟩ := h
  obtain ⟨v', u, hr, h3, h4, hv⟩ := load_now (op := { dst := none, op := .load t (.tmp x), type := 0, pos := default, after := #[], guard := none }) hΘ hf rfl (K := fun y => y = v) hl
  subst hv
  refine ⟨u, ?_, h3, h4⟩
  have hsl := hf.sl x
  rw [hk] at hsl hl
  obtain ⟨i, hi, cs, hcs, _⟩ := hl
  generalize hu : a.tmps.getD x undef = ux at hsl
  cases hsl with
  | loc _ _ _ hv =>
    obtain ⟨g, _, rfl⟩ := hv cs hcs
    have hrun : (execOp a.eval { dst := none, op := .load t (.tmp x), type := 0, pos := default, after := #[], guard := none }).run P w = ((loadVar t ⟨g, f, none⟩).run P w).andThen fun u w' => .ok (.value u) w' := by
      have he : a.eval (.tmp x) = .pointer (some ⟨g, f, none⟩) := hu
      simp [execOp, Instr.loadAt, Instr.sureAddr, he]
    have hres : (resF a.tmps (.cell x t)).run P w = (loadVar t ⟨g, f, none⟩).run P w := by
      simp only [resF, hu, asAddr, Sem.run_bind, Sem.run_pure, Result.andThen_ok]
    rw [hres]
    rw [hrun] at hr
    cases hq : (loadVar t ⟨g, f, none⟩).run P w with
    | ok u' w'' =>
      rw [hq] at hr
      simp only [Result.andThen_ok] at hr
      injection hr with e1 e2
      injection e1 with e1
      rw [e1, e2]
    | halt y w'' =>
      rw [hq] at hr
      cases hr

theorem run_rs {P : Program} {Θ : Tab} {s : St} {a : Act} {w : World} {S : Nat → Prop} {γ : Nat → Value} (hΘ : TabOk P Θ) (hf : Fr s a w S γ) : ∀ (rs : List ResultVar) (vs : List SV), ResL Θ s rs vs →
    ∃ us, (rs.mapM (resF a.tmps)).run P w = .ok us w ∧ us.length = vs.length ∧ (∀ (i : Nat) (c : SV) (u : Value), vs[i]? = some c → us[i]? = some u → SR w S γ s.o c u) ∧ SV.lts s.nk vs
  | [], [], _ => ⟨[], by simp, rfl, by simp, trivial⟩
  | [], v :: vs, h => h.elim
  | r :: rs, [], h => h.elim
  | r :: rs, v :: vs, h => by
    obtain ⟨h1, h2⟩ := h
    have hone : ∃ u, (resF a.tmps r).run P w = .ok u w ∧ SR w S γ s.o v u ∧ v.lt s.nk := by
      cases r with
      | tmp t =>
        have e : v = s.sl t := h1
        subst e
        exact ⟨_, by simp [resF], hf.sl t, hf.slt t⟩
      | cell x t => exact load_res hΘ hf h1
    obtain ⟨u, k1, k4, k5⟩ := hone
    obtain ⟨us, m1, m4, m5, m6⟩ := run_rs hΘ hf rs vs h2
    refine ⟨u :: us, ?_, by simp [m4], fun i c x hc hx => ?_, ⟨k5, m6⟩⟩
    · rw [List.mapM_cons]
      simp [k1, m1]
    · cases i with
      | zero =>
        simp only [List.getElem?_cons_zero, Option.some.injEq] at hc hx
        subst hc; subst hx
        exact k4
      | succ i => exact m5 i c x (by simpa using hc) (by simpa using hx)

structure FnOkC (P : Program) (f : FuncId) (n : Nat) (rs : List ResultVar) (c : Code) : Prop where
  mk ::
  out : ∃ fn, P.funcs[f]? = some fn ∧ fn.body = some c ∧ (fn.name == "runtime.NumGoroutine") = false ∧ fn.results.toList = rs ∧ fn.ntmps = n

def tupOf : List SV → SV
  | [v] => v
  | vs => .tup vs
def retC (Θ : Tab) (rs : List ResultVar) (Q : SV → (Nat → Option AO) → Nat → Prop) : Exit → St → Prop
  | .normal, s => ∃ vs, ResL Θ s rs vs ∧ Q (tupOf vs) s.o s.nk
  | .ret, s => ∃ vs, ResL Θ s rs vs ∧ Q (tupOf vs) s.o s.nk
  | _, _ => False

theorem Spec.of_bodyC {P : Program} {Θ : Tab} (hΘ : TabOk P Θ) {f : FuncId} {n : Nat} {rs : List ResultVar} {c : Code} {args : List SV} {o : Nat → Option AO} {nk : Nat} {Q : SV → (Nat → Option AO) → Nat → Prop} (hf : FnOkC P f n rs c) (hn : args.length ≤ n)
    (h : WP P n nk c { sl := slots args, o := o, nk := nk } (retC Θ rs Q)) : Spec P f args o nk Q := by
  intro w S γ vs h1 h2 h3 h4
  obtain ⟨fn, e1, e2, e3, e4, e5⟩ := hf.out
  have hcf : (callFunc f vs.toArray).run P w = .ok (.enter f vs.toArray) w := by
    simp only [beq_eq_false_iff_ne, ne_eq] at e3
    simp [callFunc, e1, e2, e3]
  unfold Does
  rw [hcf]
  refine calls_of_wp e1 e2 ?_
  have hrel : Rel { w := w, S := S, γ := γ, o := o, nk := nk, n := n } { sl := slots args, o := o, nk := nk } { tmps := vs.toArray ++ Array.replicate (fn.ntmps - vs.toArray.size) undef, defers := [] } w := by
    refine ⟨S, γ, h1, Tr.refl _ _ _ _ _, fun u => ?_, fun u => ?_, rfl, by simp; omega⟩
    · simp only [slots]
      rw [List.getD_eq_getElem?_getD]
      cases hu : args[u]? with
      | none => exact .any _
      | some c =>
        have hlt : u < args.length := (List.getElem?_eq_some_iff.1 hu).1
        have hv : vs[u]? = some (vs[u]'(by omega)) := List.getElem?_eq_getElem (by omega)
        have : (vs.toArray ++ Array.replicate (fn.ntmps - vs.toArray.size) undef).getD u undef = vs[u]'(by omega) := by
          simp [Array.getElem?_append, show u < vs.length by omega]
        show SR w S γ o c ((vs.toArray ++ Array.replicate (fn.ntmps - vs.toArray.size) undef).getD u undef)
        rw [this]
        exact h3 u c _ hu hv
    · simp only [slots]
      rw [List.getD_eq_getElem?_getD]
      cases hu : args[u]? with
      | none => trivial
      | some c => exact lts_get h4 u c hu
  refine Go.wp_mono (h _ _ w rfl rfl hrel) ?_
  rintro e a' w' ⟨s', ⟨S', γ', hr⟩, q⟩
  have key : (∃ vs, ResL Θ s' rs vs ∧ Q (tupOf vs) s'.o s'.nk) → a'.defers = [] ∧ ∃ v, (results fn a'.tmps).run P w' = .ok v w' ∧ ∃ u, Ending.returned v = .returned u ∧ Post P w S γ o nk Q u w' := by
    rintro ⟨vs', hrl, q⟩
    obtain ⟨us, m1, m4, m5, m6⟩ := run_rs hΘ hr.fr rs vs' hrl
    have hrs : fn.results = rs.toArray := by apply Array.ext'; simpa using e4
    have hres : (results fn a'.tmps).run P w' = .ok (match us with | [u] => u | us => .tuple us.toArray) w' := by
      unfold results
      rw [hrs, List.mapM_toArray]
      simp only [Sem.run_bind, Sem.run_map]
      refine Eq.trans (congrArg (fun r => Result.andThen (Result.andThen r _) _) m1) ?_
      match us with
      | [] => simp
      | [t] => simp
      | t :: u :: r => simp
    refine ⟨hr.df, _, hres, _, rfl, tupOf vs', s'.o, s'.nk, S', γ', q, hr.sto, hr.tr, ?_, ?_⟩
    · match us, vs', m4, m5 with
      | [], [], _, _ => exact .tup [] [] rfl (by simp)
      | [u], [v], _, h5 => exact h5 0 v u rfl rfl
      | u :: u' :: us, v :: v' :: vs'', h4, h5 => exact .tup _ _ h4 h5
    · match vs', m6 with
      | [], _ => exact trivial
      | [v], h => exact h.1
      | v :: v' :: vs'', h => exact h
  cases e with
  | normal => exact key q
  | ret => exact key q
  | _ => exact q.elim
end Go.Proofs.YtpkcbdhjnnnkbaaGreat.Abs

set_option linter.unusedVariables false
set_option linter.unusedSimpArgs false
set_option maxRecDepth 10000
namespace Go.Proofs.YtpkcbdhjnnnkbaaGreat.Abs
open Go
/-- Which parts an entry has, by its kind. -/
def fieldsV (k : Int) : Int := if k = 1 then 0 else if k = 7 then 3 else if k = 2 then 13 else if k = 4 then 5 else if k = 3 then 21 else if k = 5 ∨ k = 6 then 1 else -1

theorem fn99 : FnOk Tryz.prog 99 21 [2] (bodyOf Tryz.f99) := ⟨Tryz.f99, Tryz.func99, by kernel_rfl, by decide, by kernel_rfl, by kernel_rfl⟩
theorem s99 (k : Int) : PSpec Tryz.prog 99 [.d (.int .i64 k)] (.d (.int .i64 (fieldsV k))) := by
  refine PSpec.of fn99 (by simp) fun o nk => ?_
  refine WP.seq fun K1 hK1 => ?_
  refine WP.reg tabOk rfl ?_
  refine u_step (o_assign rfl ?_)
  refine u_nil ?_
  refine hK1 _ ?_
  refine WP.seq fun K2 hK2 => ?_
  refine WP.reg tabOk rfl ?_
  refine u_step (o_assign rfl ?_)
  refine u_nil ?_
  refine hK2 _ ?_
  refine WP.seq fun K3 hK3 => ?_
  refine WP.seq fun K4 hK4 => ?_
  refine WP.reg tabOk rfl ?_
  refine u_step (o_move rfl ?_)
  refine u_nil ?_
  refine hK4 _ ?_
  refine WP.block ?_
  refine WP.seq fun K5 hK5 => ?_
  refine WP.block ?_
  refine WP.seq fun K6 hK6 => ?_
  refine WP.block ?_
  refine WP.seq fun K7 hK7 => ?_
  refine WP.block ?_
  refine WP.seq fun K8 hK8 => ?_
  refine WP.block ?_
  refine WP.seq fun K9 hK9 => ?_
  refine WP.block ?_
  refine WP.seq fun K10 hK10 => ?_
  refine WP.block ?_
  refine WP.seq fun K11 hK11 => ?_
  refine WP.seq fun K12 hK12 => ?_
  refine WP.seq fun K13 hK13 => ?_
  refine WP.reg tabOk rfl ?_
  refine u_step (o_bin_int rfl rfl (by decide) rfl ?_)
  refine u_step (o_assign rfl ?_)
  refine u_nil ?_
  refine hK13 _ ?_
  refine WP.cond rfl (fun hc14 => ?_) (fun hc14 => ?_)
  ·
    try simp only [Q0, Q1, Q2, Q3, Q4, Q5, Q6, Q7, Q8, ge_iff_le, gt_iff_lt] at hc14
    refine WP.exit ?_
    refine hK10 _ ?_
    refine WP.seq fun K15 hK15 => ?_
    refine WP.seq fun K16 hK16 => ?_
    refine WP.reg tabOk rfl ?_
    refine u_step (o_assign rfl ?_)
    refine u_nil ?_
    refine hK16 _ ?_
    refine WP.ret ?_
    refine ret_ok rfl ?_ (by omega) (fun _ _ => rfl)
    -- ret 1
    refine congrArg (D.int .i64) ?_
    clear hK1 hK2 hK3 hK4 hK5 hK6 hK7 hK8 hK9 hK10 hK11 hK12 hK13 hK15 hK16
    simp only [beq_iff_eq, beq_eq_false_iff_ne, ne_eq] at hc14
    simp only [fieldsV]
    first | (simp [hc14]; done) | (simp [hc14]; decide) | (simp_all; done) | (simp_all; decide) | grind
  ·
    try simp only [Q0, Q1, Q2, Q3, Q4, Q5, Q6, Q7, Q8, ge_iff_le, gt_iff_lt] at hc14
    refine WP.skip ?_
    refine hK12 _ ?_
    refine WP.seq fun K17 hK17 => ?_
    refine WP.seq fun K18 hK18 => ?_
    refine WP.reg tabOk rfl ?_
    refine u_step (o_bin_int rfl rfl (by decide) rfl ?_)
    refine u_step (o_assign rfl ?_)
    refine u_nil ?_
    refine hK18 _ ?_
    refine WP.cond rfl (fun hc19 => ?_) (fun hc19 => ?_)
    ·
      try simp only [Q0, Q1, Q2, Q3, Q4, Q5, Q6, Q7, Q8, ge_iff_le, gt_iff_lt] at hc19
      refine WP.exit ?_
      refine hK9 _ ?_
      refine WP.seq fun K20 hK20 => ?_
      refine WP.seq fun K21 hK21 => ?_
      refine WP.reg tabOk rfl ?_
      refine u_step (o_assign rfl ?_)
      refine u_nil ?_
      refine hK21 _ ?_
      refine WP.ret ?_
      refine ret_ok rfl ?_ (by omega) (fun _ _ => rfl)
      -- ret 2
      refine congrArg (D.int .i64) ?_
      clear hK1 hK2 hK3 hK4 hK5 hK6 hK7 hK8 hK9 hK10 hK11 hK12 hK13 hK17 hK18 hK20 hK21
      simp only [beq_iff_eq, beq_eq_false_iff_ne, ne_eq] at hc14 hc19
      simp only [fieldsV]
      first | (simp [hc14, hc19]; done) | (simp [hc14, hc19]; decide) | (simp_all; done) | (simp_all; decide) | grind
    ·
      try simp only [Q0, Q1, Q2, Q3, Q4, Q5, Q6, Q7, Q8, ge_iff_le, gt_iff_lt] at hc19
      refine WP.skip ?_
      refine hK17 _ ?_
      refine WP.seq fun K22 hK22 => ?_
      refine WP.seq fun K23 hK23 => ?_
      refine WP.reg tabOk rfl ?_
      refine u_step (o_bin_int rfl rfl (by decide) rfl ?_)
      refine u_step (o_assign rfl ?_)
      refine u_nil ?_
      refine hK23 _ ?_
      refine WP.cond rfl (fun hc24 => ?_) (fun hc24 => ?_)
      ·
        try simp only [Q0, Q1, Q2, Q3, Q4, Q5, Q6, Q7, Q8, ge_iff_le, gt_iff_lt] at hc24
        refine WP.exit ?_
        refine hK8 _ ?_
        refine WP.reg tabOk rfl ?_
        refine u_step (o_assign rfl ?_)
        refine u_nil ?_
        refine hK7 _ ?_
        refine WP.seq fun K25 hK25 => ?_
        refine WP.seq fun K26 hK26 => ?_
        refine WP.reg tabOk rfl ?_
        refine u_step (o_move rfl ?_)
        refine u_step (o_bin_int rfl rfl (by decide) rfl ?_)
        refine u_step (o_bin_int rfl rfl (by decide) rfl ?_)
        refine u_step (o_assign rfl ?_)
        refine u_nil ?_
        refine hK26 _ ?_
        refine WP.ret ?_
        refine ret_ok rfl ?_ (by omega) (fun _ _ => rfl)
        -- ret 3
        refine congrArg (D.int .i64) ?_
        clear hK1 hK2 hK3 hK4 hK5 hK6 hK7 hK8 hK9 hK10 hK11 hK12 hK13 hK17 hK18 hK22 hK23 hK25 hK26
        simp only [beq_iff_eq, beq_eq_false_iff_ne, ne_eq] at hc14 hc19 hc24
        simp only [fieldsV]
        first | (simp [hc14, hc19, hc24]; done) | (simp [hc14, hc19, hc24]; decide) | (simp_all; done) | (simp_all; decide) | grind
      ·
        try simp only [Q0, Q1, Q2, Q3, Q4, Q5, Q6, Q7, Q8, ge_iff_le, gt_iff_lt] at hc24
        refine WP.skip ?_
        refine hK22 _ ?_
        refine WP.seq fun K27 hK27 => ?_
        refine WP.seq fun K28 hK28 => ?_
        refine WP.reg tabOk rfl ?_
        refine u_step (o_bin_int rfl rfl (by decide) rfl ?_)
        refine u_step (o_assign rfl ?_)
        refine u_nil ?_
        refine hK28 _ ?_
        refine WP.cond rfl (fun hc29 => ?_) (fun hc29 => ?_)
        ·
          try simp only [Q0, Q1, Q2, Q3, Q4, Q5, Q6, Q7, Q8, ge_iff_le, gt_iff_lt] at hc29
          refine WP.exit ?_
          refine hK7 _ ?_
          refine WP.seq fun K30 hK30 => ?_
          refine WP.seq fun K31 hK31 => ?_
          refine WP.reg tabOk rfl ?_
          refine u_step (o_move rfl ?_)
          refine u_step (o_bin_int rfl rfl (by decide) rfl ?_)
          refine u_step (o_bin_int rfl rfl (by decide) rfl ?_)
          refine u_step (o_assign rfl ?_)
          refine u_nil ?_
          refine hK31 _ ?_
          refine WP.ret ?_
          refine ret_ok rfl ?_ (by omega) (fun _ _ => rfl)
          -- ret 4
          refine congrArg (D.int .i64) ?_
          clear hK1 hK2 hK3 hK4 hK5 hK6 hK7 hK8 hK9 hK10 hK11 hK12 hK13 hK17 hK18 hK22 hK23 hK27 hK28 hK30 hK31
          simp only [beq_iff_eq, beq_eq_false_iff_ne, ne_eq] at hc14 hc19 hc24 hc29
          simp only [fieldsV]
          first | (simp [hc14, hc19, hc24, hc29]; done) | (simp [hc14, hc19, hc24, hc29]; decide) | (simp_all; done) | (simp_all; decide) | grind
        ·
          try simp only [Q0, Q1, Q2, Q3, Q4, Q5, Q6, Q7, Q8, ge_iff_le, gt_iff_lt] at hc29
          refine WP.skip ?_
          refine hK27 _ ?_
          refine WP.seq fun K32 hK32 => ?_
          refine WP.seq fun K33 hK33 => ?_
          refine WP.reg tabOk rfl ?_
          refine u_step (o_bin_int rfl rfl (by decide) rfl ?_)
          refine u_step (o_assign rfl ?_)
          refine u_nil ?_
          refine hK33 _ ?_
          refine WP.cond rfl (fun hc34 => ?_) (fun hc34 => ?_)
          ·
            try simp only [Q0, Q1, Q2, Q3, Q4, Q5, Q6, Q7, Q8, ge_iff_le, gt_iff_lt] at hc34
            refine WP.exit ?_
            refine hK6 _ ?_
            refine WP.seq fun K35 hK35 => ?_
            refine WP.seq fun K36 hK36 => ?_
            refine WP.reg tabOk rfl ?_
            refine u_step (o_assign rfl ?_)
            refine u_nil ?_
            refine hK36 _ ?_
            refine WP.ret ?_
            refine ret_ok rfl ?_ (by omega) (fun _ _ => rfl)
            -- ret 5
            refine congrArg (D.int .i64) ?_
            clear hK1 hK2 hK3 hK4 hK5 hK6 hK7 hK8 hK9 hK10 hK11 hK12 hK13 hK17 hK18 hK22 hK23 hK27 hK28 hK32 hK33 hK35 hK36
            simp only [beq_iff_eq, beq_eq_false_iff_ne, ne_eq] at hc14 hc19 hc24 hc29 hc34
            simp only [fieldsV]
            first | (simp [hc14, hc19, hc24, hc29, hc34]; done) | (simp [hc14, hc19, hc24, hc29, hc34]; decide) | (simp_all; done) | (simp_all; decide) | grind
          ·
            try simp only [Q0, Q1, Q2, Q3, Q4, Q5, Q6, Q7, Q8, ge_iff_le, gt_iff_lt] at hc34
            refine WP.skip ?_
            refine hK32 _ ?_
            refine WP.seq fun K37 hK37 => ?_
            refine WP.seq fun K38 hK38 => ?_
            refine WP.reg tabOk rfl ?_
            refine u_step (o_bin_int rfl rfl (by decide) rfl ?_)
            refine u_step (o_assign rfl ?_)
            refine u_nil ?_
            refine hK38 _ ?_
            refine WP.cond rfl (fun hc39 => ?_) (fun hc39 => ?_)
            ·
              try simp only [Q0, Q1, Q2, Q3, Q4, Q5, Q6, Q7, Q8, ge_iff_le, gt_iff_lt] at hc39
              refine WP.skip ?_
              refine hK37 _ ?_
              refine WP.cond rfl (fun hc40 => ?_) (fun hc40 => ?_)
              ·
                try simp only [Q0, Q1, Q2, Q3, Q4, Q5, Q6, Q7, Q8, ge_iff_le, gt_iff_lt] at hc40
                refine WP.exit ?_
                refine hK5 _ ?_
                refine WP.seq fun K41 hK41 => ?_
                refine WP.seq fun K42 hK42 => ?_
                refine WP.reg tabOk rfl ?_
                refine u_step (o_assign rfl ?_)
                refine u_nil ?_
                refine hK42 _ ?_
                refine WP.ret ?_
                refine ret_ok rfl ?_ (by omega) (fun _ _ => rfl)
                -- ret 6
                refine congrArg (D.int .i64) ?_
                clear hK1 hK2 hK3 hK4 hK5 hK6 hK7 hK8 hK9 hK10 hK11 hK12 hK13 hK17 hK18 hK22 hK23 hK27 hK28 hK32 hK33 hK37 hK38 hK41 hK42
                simp only [beq_iff_eq, beq_eq_false_iff_ne, ne_eq] at hc14 hc19 hc24 hc29 hc34 hc39 hc40
                simp only [fieldsV]
                first | (simp [hc14, hc19, hc24, hc29, hc34, hc39, hc40]; done) | (simp [hc14, hc19, hc24, hc29, hc34, hc39, hc40]; decide) | (simp_all; done) | (simp_all; decide) | grind
              ·
                try simp only [Q0, Q1, Q2, Q3, Q4, Q5, Q6, Q7, Q8, ge_iff_le, gt_iff_lt] at hc40
                refine WP.skip ?_
                refine hK11 _ ?_
                refine WP.exit ?_
                refine hK3 _ ?_
                refine WP.seq fun K43 hK43 => ?_
                refine WP.reg tabOk rfl ?_
                refine u_step (o_assign rfl ?_)
                refine u_nil ?_
                refine hK43 _ ?_
                refine WP.ret ?_
                refine ret_ok rfl ?_ (by omega) (fun _ _ => rfl)
                -- ret 7
                refine congrArg (D.int .i64) ?_
                clear hK1 hK2 hK3 hK4 hK5 hK6 hK7 hK8 hK9 hK10 hK11 hK12 hK13 hK17 hK18 hK22 hK23 hK27 hK28 hK32 hK33 hK37 hK38 hK43
                simp only [beq_iff_eq, beq_eq_false_iff_ne, ne_eq] at hc14 hc19 hc24 hc29 hc34 hc39 hc40
                simp only [fieldsV]
                first | (simp [hc14, hc19, hc24, hc29, hc34, hc39, hc40]; done) | (simp [hc14, hc19, hc24, hc29, hc34, hc39, hc40]; decide) | (simp_all; done) | (simp_all; decide) | grind
            ·
              try simp only [Q0, Q1, Q2, Q3, Q4, Q5, Q6, Q7, Q8, ge_iff_le, gt_iff_lt] at hc39
              refine WP.reg tabOk rfl ?_
              refine u_step (o_bin_int rfl rfl (by decide) rfl ?_)
              refine u_step (o_assign rfl ?_)
              refine u_nil ?_
              refine hK37 _ ?_
              refine WP.cond rfl (fun hc44 => ?_) (fun hc44 => ?_)
              ·
                try simp only [Q0, Q1, Q2, Q3, Q4, Q5, Q6, Q7, Q8, ge_iff_le, gt_iff_lt] at hc44
                refine WP.exit ?_
                refine hK5 _ ?_
                refine WP.seq fun K45 hK45 => ?_
                refine WP.seq fun K46 hK46 => ?_
                refine WP.reg tabOk rfl ?_
                refine u_step (o_assign rfl ?_)
                refine u_nil ?_
                refine hK46 _ ?_
                refine WP.ret ?_
                refine ret_ok rfl ?_ (by omega) (fun _ _ => rfl)
                -- ret 8
                refine congrArg (D.int .i64) ?_
                clear hK1 hK2 hK3 hK4 hK5 hK6 hK7 hK8 hK9 hK10 hK11 hK12 hK13 hK17 hK18 hK22 hK23 hK27 hK28 hK32 hK33 hK37 hK38 hK45 hK46
                simp only [beq_iff_eq, beq_eq_false_iff_ne, ne_eq] at hc14 hc19 hc24 hc29 hc34 hc39 hc44
                simp only [fieldsV]
                first | (simp [hc14, hc19, hc24, hc29, hc34, hc39, hc44]; done) | (simp [hc14, hc19, hc24, hc29, hc34, hc39, hc44]; decide) | (simp_all; done) | (simp_all; decide) | grind
              ·
                try simp only [Q0, Q1, Q2, Q3, Q4, Q5, Q6, Q7, Q8, ge_iff_le, gt_iff_lt] at hc44
                refine WP.skip ?_
                refine hK11 _ ?_
                refine WP.exit ?_
                refine hK3 _ ?_
                refine WP.seq fun K47 hK47 => ?_
                refine WP.reg tabOk rfl ?_
                refine u_step (o_assign rfl ?_)
                refine u_nil ?_
                refine hK47 _ ?_
                refine WP.ret ?_
                refine ret_ok rfl ?_ (by omega) (fun _ _ => rfl)
                -- ret 9
                refine congrArg (D.int .i64) ?_
                clear hK1 hK2 hK3 hK4 hK5 hK6 hK7 hK8 hK9 hK10 hK11 hK12 hK13 hK17 hK18 hK22 hK23 hK27 hK28 hK32 hK33 hK37 hK38 hK47
                simp only [beq_iff_eq, beq_eq_false_iff_ne, ne_eq] at hc14 hc19 hc24 hc29 hc34 hc39 hc44
                simp only [fieldsV]
                first | (simp [hc14, hc19, hc24, hc29, hc34, hc39, hc44]; done) | (simp [hc14, hc19, hc24, hc29, hc34, hc39, hc44]; decide) | (simp_all; done) | (simp_all; decide) | grind

end Go.Proofs.YtpkcbdhjnnnkbaaGreat.Abs

set_option linter.unusedVariables false
set_option linter.unusedSimpArgs false
set_option maxRecDepth 10000
namespace Go.Proofs.YtpkcbdhjnnnkbaaGreat.Abs
open Go
theorem retT_ok {ts : List Nat} {sl : Nat → SV} {o o0 : Nat → Option AO} {nk nk0 : Nat} {xs : List D} (h1 : resOf ts ⟨sl, o, nk⟩ = .tup (xs.map .d)) (h3 : nk0 ≤ nk) (h4 : ∀ t, t < nk0 → o t = o0 t) :
    retQ ts (fun r o' nk' => r = .tup (xs.map .d) ∧ nk0 ≤ nk' ∧ ∀ t, t < nk0 → o' t = o0 t) .ret ⟨sl, o, nk⟩ := ⟨h1, h3, h4⟩
/-- Which parts an entry has, by its kind: a name, another one, an id, a document, changes. -/
def hasL (k : Int) : List D :=
  if k = 2 then [.bool true, .bool false, .bool true, .bool true, .bool false]
  else if k = 3 then [.bool true, .bool false, .bool true, .bool false, .bool true]
  else if k = 4 then [.bool true, .bool false, .bool true, .bool false, .bool false]
  else if k = 5 ∨ k = 6 then [.bool true, .bool false, .bool false, .bool false, .bool false]
  else if k = 7 then [.bool true, .bool true, .bool false, .bool false, .bool false]
  else [.bool false, .bool false, .bool false, .bool false, .bool false]

theorem fn64 : FnOk Tryz.prog 64 19 [2, 3, 4, 5, 6] (bodyOf Tryz.f64) := ⟨Tryz.f64, Tryz.func64, by kernel_rfl, by decide, by kernel_rfl, by kernel_rfl⟩
theorem s64 (k : Int) : PSpec Tryz.prog 64 [.d (.int .i64 k)] (.tup ((hasL k).map .d)) := by
  refine PSpec.of2 fn64 (by simp) fun o nk => ?_
  refine WP.seq fun K1 hK1 => ?_
  refine WP.reg tabOk rfl ?_
  refine u_step (o_assign rfl ?_)
  refine u_step (o_assign rfl ?_)
  refine u_step (o_assign rfl ?_)
  refine u_step (o_assign rfl ?_)
  refine u_step (o_assign rfl ?_)
  refine u_nil ?_
  refine hK1 _ ?_
  refine WP.seq fun K2 hK2 => ?_
  refine WP.seq fun K3 hK3 => ?_
  refine WP.reg tabOk rfl ?_
  refine u_step (o_move rfl ?_)
  refine u_nil ?_
  refine hK3 _ ?_
  refine WP.block ?_
  refine WP.seq fun K4 hK4 => ?_
  refine WP.reg tabOk rfl ?_
  refine u_step (o_bin_int rfl rfl (by decide) rfl ?_)
  refine u_step (o_assign rfl ?_)
  refine u_nil ?_
  refine hK4 _ ?_
  refine WP.cond rfl (fun hc5 => ?_) (fun hc5 => ?_)
  ·
    try simp only [Q0, Q1, Q2, Q3, Q4, Q5, Q6, Q7, Q8, ge_iff_le, gt_iff_lt] at hc5
    refine WP.seq fun K6 hK6 => ?_
    refine WP.reg tabOk rfl ?_
    refine u_step (o_assign rfl ?_)
    refine u_step (o_assign rfl ?_)
    refine u_step (o_assign rfl ?_)
    refine u_step (o_assign rfl ?_)
    refine u_step (o_assign rfl ?_)
    refine u_nil ?_
    refine hK6 _ ?_
    refine WP.ret ?_
    refine retT_ok ?_ (by omega) (fun _ _ => rfl)
    clear hK1 hK2 hK3 hK4 hK6
    simp only [beq_iff_eq, beq_eq_false_iff_ne, ne_eq] at hc5
    first | exact (show SV.tup (List.map SV.d [.bool true, .bool false, .bool true, .bool true, .bool false]) = _ from by rw [show hasL k = [.bool true, .bool false, .bool true, .bool true, .bool false] from by simp only [hasL]; grind]) | exact (show SV.tup (List.map SV.d [.bool true, .bool false, .bool true, .bool false, .bool true]) = _ from by rw [show hasL k = [.bool true, .bool false, .bool true, .bool false, .bool true] from by simp only [hasL]; grind]) | exact (show SV.tup (List.map SV.d [.bool true, .bool false, .bool true, .bool false, .bool false]) = _ from by rw [show hasL k = [.bool true, .bool false, .bool true, .bool false, .bool false] from by simp only [hasL]; grind]) | exact (show SV.tup (List.map SV.d [.bool true, .bool false, .bool false, .bool false, .bool false]) = _ from by rw [show hasL k = [.bool true, .bool false, .bool false, .bool false, .bool false] from by simp only [hasL]; grind]) | exact (show SV.tup (List.map SV.d [.bool true, .bool true, .bool false, .bool false, .bool false]) = _ from by rw [show hasL k = [.bool true, .bool true, .bool false, .bool false, .bool false] from by simp only [hasL]; grind]) | exact (show SV.tup (List.map SV.d [.bool false, .bool false, .bool false, .bool false, .bool false]) = _ from by rw [show hasL k = [.bool false, .bool false, .bool false, .bool false, .bool false] from by simp only [hasL]; grind])
  ·
    try simp only [Q0, Q1, Q2, Q3, Q4, Q5, Q6, Q7, Q8, ge_iff_le, gt_iff_lt] at hc5
    refine WP.seq fun K7 hK7 => ?_
    refine WP.reg tabOk rfl ?_
    refine u_step (o_bin_int rfl rfl (by decide) rfl ?_)
    refine u_step (o_assign rfl ?_)
    refine u_nil ?_
    refine hK7 _ ?_
    refine WP.cond rfl (fun hc8 => ?_) (fun hc8 => ?_)
    ·
      try simp only [Q0, Q1, Q2, Q3, Q4, Q5, Q6, Q7, Q8, ge_iff_le, gt_iff_lt] at hc8
      refine WP.seq fun K9 hK9 => ?_
      refine WP.reg tabOk rfl ?_
      refine u_step (o_assign rfl ?_)
      refine u_step (o_assign rfl ?_)
      refine u_step (o_assign rfl ?_)
      refine u_step (o_assign rfl ?_)
      refine u_step (o_assign rfl ?_)
      refine u_nil ?_
      refine hK9 _ ?_
      refine WP.ret ?_
      refine retT_ok ?_ (by omega) (fun _ _ => rfl)
      clear hK1 hK2 hK3 hK4 hK7 hK9
      simp only [beq_iff_eq, beq_eq_false_iff_ne, ne_eq] at hc5 hc8
      first | exact (show SV.tup (List.map SV.d [.bool true, .bool false, .bool true, .bool true, .bool false]) = _ from by rw [show hasL k = [.bool true, .bool false, .bool true, .bool true, .bool false] from by simp only [hasL]; grind]) | exact (show SV.tup (List.map SV.d [.bool true, .bool false, .bool true, .bool false, .bool true]) = _ from by rw [show hasL k = [.bool true, .bool false, .bool true, .bool false, .bool true] from by simp only [hasL]; grind]) | exact (show SV.tup (List.map SV.d [.bool true, .bool false, .bool true, .bool false, .bool false]) = _ from by rw [show hasL k = [.bool true, .bool false, .bool true, .bool false, .bool false] from by simp only [hasL]; grind]) | exact (show SV.tup (List.map SV.d [.bool true, .bool false, .bool false, .bool false, .bool false]) = _ from by rw [show hasL k = [.bool true, .bool false, .bool false, .bool false, .bool false] from by simp only [hasL]; grind]) | exact (show SV.tup (List.map SV.d [.bool true, .bool true, .bool false, .bool false, .bool false]) = _ from by rw [show hasL k = [.bool true, .bool true, .bool false, .bool false, .bool false] from by simp only [hasL]; grind]) | exact (show SV.tup (List.map SV.d [.bool false, .bool false, .bool false, .bool false, .bool false]) = _ from by rw [show hasL k = [.bool false, .bool false, .bool false, .bool false, .bool false] from by simp only [hasL]; grind])
    ·
      try simp only [Q0, Q1, Q2, Q3, Q4, Q5, Q6, Q7, Q8, ge_iff_le, gt_iff_lt] at hc8
      refine WP.seq fun K10 hK10 => ?_
      refine WP.reg tabOk rfl ?_
      refine u_step (o_bin_int rfl rfl (by decide) rfl ?_)
      refine u_step (o_assign rfl ?_)
      refine u_nil ?_
      refine hK10 _ ?_
      refine WP.cond rfl (fun hc11 => ?_) (fun hc11 => ?_)
      ·
        try simp only [Q0, Q1, Q2, Q3, Q4, Q5, Q6, Q7, Q8, ge_iff_le, gt_iff_lt] at hc11
        refine WP.seq fun K12 hK12 => ?_
        refine WP.reg tabOk rfl ?_
        refine u_step (o_assign rfl ?_)
        refine u_step (o_assign rfl ?_)
        refine u_step (o_assign rfl ?_)
        refine u_step (o_assign rfl ?_)
        refine u_step (o_assign rfl ?_)
        refine u_nil ?_
        refine hK12 _ ?_
        refine WP.ret ?_
        refine retT_ok ?_ (by omega) (fun _ _ => rfl)
        clear hK1 hK2 hK3 hK4 hK7 hK10 hK12
        simp only [beq_iff_eq, beq_eq_false_iff_ne, ne_eq] at hc5 hc8 hc11
        first | exact (show SV.tup (List.map SV.d [.bool true, .bool false, .bool true, .bool true, .bool false]) = _ from by rw [show hasL k = [.bool true, .bool false, .bool true, .bool true, .bool false] from by simp only [hasL]; grind]) | exact (show SV.tup (List.map SV.d [.bool true, .bool false, .bool true, .bool false, .bool true]) = _ from by rw [show hasL k = [.bool true, .bool false, .bool true, .bool false, .bool true] from by simp only [hasL]; grind]) | exact (show SV.tup (List.map SV.d [.bool true, .bool false, .bool true, .bool false, .bool false]) = _ from by rw [show hasL k = [.bool true, .bool false, .bool true, .bool false, .bool false] from by simp only [hasL]; grind]) | exact (show SV.tup (List.map SV.d [.bool true, .bool false, .bool false, .bool false, .bool false]) = _ from by rw [show hasL k = [.bool true, .bool false, .bool false, .bool false, .bool false] from by simp only [hasL]; grind]) | exact (show SV.tup (List.map SV.d [.bool true, .bool true, .bool false, .bool false, .bool false]) = _ from by rw [show hasL k = [.bool true, .bool true, .bool false, .bool false, .bool false] from by simp only [hasL]; grind]) | exact (show SV.tup (List.map SV.d [.bool false, .bool false, .bool false, .bool false, .bool false]) = _ from by rw [show hasL k = [.bool false, .bool false, .bool false, .bool false, .bool false] from by simp only [hasL]; grind])
      ·
        try simp only [Q0, Q1, Q2, Q3, Q4, Q5, Q6, Q7, Q8, ge_iff_le, gt_iff_lt] at hc11
        refine WP.seq fun K13 hK13 => ?_
        refine WP.seq fun K14 hK14 => ?_
        refine WP.reg tabOk rfl ?_
        refine u_step (o_bin_int rfl rfl (by decide) rfl ?_)
        refine u_step (o_assign rfl ?_)
        refine u_nil ?_
        refine hK14 _ ?_
        refine WP.cond rfl (fun hc15 => ?_) (fun hc15 => ?_)
        ·
          try simp only [Q0, Q1, Q2, Q3, Q4, Q5, Q6, Q7, Q8, ge_iff_le, gt_iff_lt] at hc15
          refine WP.skip ?_
          refine hK13 _ ?_
          refine WP.cond rfl (fun hc16 => ?_) (fun hc16 => ?_)
          ·
            try simp only [Q0, Q1, Q2, Q3, Q4, Q5, Q6, Q7, Q8, ge_iff_le, gt_iff_lt] at hc16
            refine WP.seq fun K17 hK17 => ?_
            refine WP.reg tabOk rfl ?_
            refine u_step (o_assign rfl ?_)
            refine u_step (o_assign rfl ?_)
            refine u_step (o_assign rfl ?_)
            refine u_step (o_assign rfl ?_)
            refine u_step (o_assign rfl ?_)
            refine u_nil ?_
            refine hK17 _ ?_
            refine WP.ret ?_
            refine retT_ok ?_ (by omega) (fun _ _ => rfl)
            clear hK1 hK2 hK3 hK4 hK7 hK10 hK13 hK14 hK17
            simp only [beq_iff_eq, beq_eq_false_iff_ne, ne_eq] at hc5 hc8 hc11 hc15 hc16
            first | exact (show SV.tup (List.map SV.d [.bool true, .bool false, .bool true, .bool true, .bool false]) = _ from by rw [show hasL k = [.bool true, .bool false, .bool true, .bool true, .bool false] from by simp only [hasL]; grind]) | exact (show SV.tup (List.map SV.d [.bool true, .bool false, .bool true, .bool false, .bool true]) = _ from by rw [show hasL k = [.bool true, .bool false, .bool true, .bool false, .bool true] from by simp only [hasL]; grind]) | exact (show SV.tup (List.map SV.d [.bool true, .bool false, .bool true, .bool false, .bool false]) = _ from by rw [show hasL k = [.bool true, .bool false, .bool true, .bool false, .bool false] from by simp only [hasL]; grind]) | exact (show SV.tup (List.map SV.d [.bool true, .bool false, .bool false, .bool false, .bool false]) = _ from by rw [show hasL k = [.bool true, .bool false, .bool false, .bool false, .bool false] from by simp only [hasL]; grind]) | exact (show SV.tup (List.map SV.d [.bool true, .bool true, .bool false, .bool false, .bool false]) = _ from by rw [show hasL k = [.bool true, .bool true, .bool false, .bool false, .bool false] from by simp only [hasL]; grind]) | exact (show SV.tup (List.map SV.d [.bool false, .bool false, .bool false, .bool false, .bool false]) = _ from by rw [show hasL k = [.bool false, .bool false, .bool false, .bool false, .bool false] from by simp only [hasL]; grind])
          ·
            try simp only [Q0, Q1, Q2, Q3, Q4, Q5, Q6, Q7, Q8, ge_iff_le, gt_iff_lt] at hc16
            refine WP.seq fun K18 hK18 => ?_
            refine WP.reg tabOk rfl ?_
            refine u_step (o_bin_int rfl rfl (by decide) rfl ?_)
            refine u_step (o_assign rfl ?_)
            refine u_nil ?_
            refine hK18 _ ?_
            refine WP.cond rfl (fun hc19 => ?_) (fun hc19 => ?_)
            ·
              try simp only [Q0, Q1, Q2, Q3, Q4, Q5, Q6, Q7, Q8, ge_iff_le, gt_iff_lt] at hc19
              refine WP.seq fun K20 hK20 => ?_
              refine WP.reg tabOk rfl ?_
              refine u_step (o_assign rfl ?_)
              refine u_step (o_assign rfl ?_)
              refine u_step (o_assign rfl ?_)
              refine u_step (o_assign rfl ?_)
              refine u_step (o_assign rfl ?_)
              refine u_nil ?_
              refine hK20 _ ?_
              refine WP.ret ?_
              refine retT_ok ?_ (by omega) (fun _ _ => rfl)
              clear hK1 hK2 hK3 hK4 hK7 hK10 hK13 hK14 hK18 hK20
              simp only [beq_iff_eq, beq_eq_false_iff_ne, ne_eq] at hc5 hc8 hc11 hc15 hc16 hc19
              first | exact (show SV.tup (List.map SV.d [.bool true, .bool false, .bool true, .bool true, .bool false]) = _ from by rw [show hasL k = [.bool true, .bool false, .bool true, .bool true, .bool false] from by simp only [hasL]; grind]) | exact (show SV.tup (List.map SV.d [.bool true, .bool false, .bool true, .bool false, .bool true]) = _ from by rw [show hasL k = [.bool true, .bool false, .bool true, .bool false, .bool true] from by simp only [hasL]; grind]) | exact (show SV.tup (List.map SV.d [.bool true, .bool false, .bool true, .bool false, .bool false]) = _ from by rw [show hasL k = [.bool true, .bool false, .bool true, .bool false, .bool false] from by simp only [hasL]; grind]) | exact (show SV.tup (List.map SV.d [.bool true, .bool false, .bool false, .bool false, .bool false]) = _ from by rw [show hasL k = [.bool true, .bool false, .bool false, .bool false, .bool false] from by simp only [hasL]; grind]) | exact (show SV.tup (List.map SV.d [.bool true, .bool true, .bool false, .bool false, .bool false]) = _ from by rw [show hasL k = [.bool true, .bool true, .bool false, .bool false, .bool false] from by simp only [hasL]; grind]) | exact (show SV.tup (List.map SV.d [.bool false, .bool false, .bool false, .bool false, .bool false]) = _ from by rw [show hasL k = [.bool false, .bool false, .bool false, .bool false, .bool false] from by simp only [hasL]; grind])
            ·
              try simp only [Q0, Q1, Q2, Q3, Q4, Q5, Q6, Q7, Q8, ge_iff_le, gt_iff_lt] at hc19
              refine WP.skip ?_
              refine hK2 _ ?_
              refine WP.seq fun K21 hK21 => ?_
              refine WP.reg tabOk rfl ?_
              refine u_step (o_assign rfl ?_)
              refine u_step (o_assign rfl ?_)
              refine u_step (o_assign rfl ?_)
              refine u_step (o_assign rfl ?_)
              refine u_step (o_assign rfl ?_)
              refine u_nil ?_
              refine hK21 _ ?_
              refine WP.ret ?_
              refine retT_ok ?_ (by omega) (fun _ _ => rfl)
              clear hK1 hK2 hK3 hK4 hK7 hK10 hK13 hK14 hK18 hK21
              simp only [beq_iff_eq, beq_eq_false_iff_ne, ne_eq] at hc5 hc8 hc11 hc15 hc16 hc19
              first | exact (show SV.tup (List.map SV.d [.bool true, .bool false, .bool true, .bool true, .bool false]) = _ from by rw [show hasL k = [.bool true, .bool false, .bool true, .bool true, .bool false] from by simp only [hasL]; grind]) | exact (show SV.tup (List.map SV.d [.bool true, .bool false, .bool true, .bool false, .bool true]) = _ from by rw [show hasL k = [.bool true, .bool false, .bool true, .bool false, .bool true] from by simp only [hasL]; grind]) | exact (show SV.tup (List.map SV.d [.bool true, .bool false, .bool true, .bool false, .bool false]) = _ from by rw [show hasL k = [.bool true, .bool false, .bool true, .bool false, .bool false] from by simp only [hasL]; grind]) | exact (show SV.tup (List.map SV.d [.bool true, .bool false, .bool false, .bool false, .bool false]) = _ from by rw [show hasL k = [.bool true, .bool false, .bool false, .bool false, .bool false] from by simp only [hasL]; grind]) | exact (show SV.tup (List.map SV.d [.bool true, .bool true, .bool false, .bool false, .bool false]) = _ from by rw [show hasL k = [.bool true, .bool true, .bool false, .bool false, .bool false] from by simp only [hasL]; grind]) | exact (show SV.tup (List.map SV.d [.bool false, .bool false, .bool false, .bool false, .bool false]) = _ from by rw [show hasL k = [.bool false, .bool false, .bool false, .bool false, .bool false] from by simp only [hasL]; grind])
        ·
          try simp only [Q0, Q1, Q2, Q3, Q4, Q5, Q6, Q7, Q8, ge_iff_le, gt_iff_lt] at hc15
          refine WP.reg tabOk rfl ?_
          refine u_step (o_bin_int rfl rfl (by decide) rfl ?_)
          refine u_step (o_assign rfl ?_)
          refine u_nil ?_
          refine hK13 _ ?_
          refine WP.cond rfl (fun hc22 => ?_) (fun hc22 => ?_)
          ·
            try simp only [Q0, Q1, Q2, Q3, Q4, Q5, Q6, Q7, Q8, ge_iff_le, gt_iff_lt] at hc22
            refine WP.seq fun K23 hK23 => ?_
            refine WP.reg tabOk rfl ?_
            refine u_step (o_assign rfl ?_)
            refine u_step (o_assign rfl ?_)
            refine u_step (o_assign rfl ?_)
            refine u_step (o_assign rfl ?_)
            refine u_step (o_assign rfl ?_)
            refine u_nil ?_
            refine hK23 _ ?_
            refine WP.ret ?_
            refine retT_ok ?_ (by omega) (fun _ _ => rfl)
            clear hK1 hK2 hK3 hK4 hK7 hK10 hK13 hK14 hK23
            simp only [beq_iff_eq, beq_eq_false_iff_ne, ne_eq] at hc5 hc8 hc11 hc15 hc22
            first | exact (show SV.tup (List.map SV.d [.bool true, .bool false, .bool true, .bool true, .bool false]) = _ from by rw [show hasL k = [.bool true, .bool false, .bool true, .bool true, .bool false] from by simp only [hasL]; grind]) | exact (show SV.tup (List.map SV.d [.bool true, .bool false, .bool true, .bool false, .bool true]) = _ from by rw [show hasL k = [.bool true, .bool false, .bool true, .bool false, .bool true] from by simp only [hasL]; grind]) | exact (show SV.tup (List.map SV.d [.bool true, .bool false, .bool true, .bool false, .bool false]) = _ from by rw [show hasL k = [.bool true, .bool false, .bool true, .bool false, .bool false] from by simp only [hasL]; grind]) | exact (show SV.tup (List.map SV.d [.bool true, .bool false, .bool false, .bool false, .bool false]) = _ from by rw [show hasL k = [.bool true, .bool false, .bool false, .bool false, .bool false] from by simp only [hasL]; grind]) | exact (show SV.tup (List.map SV.d [.bool true, .bool true, .bool false, .bool false, .bool false]) = _ from by rw [show hasL k = [.bool true, .bool true, .bool false, .bool false, .bool false] from by simp only [hasL]; grind]) | exact (show SV.tup (List.map SV.d [.bool false, .bool false, .bool false, .bool false, .bool false]) = _ from by rw [show hasL k = [.bool false, .bool false, .bool false, .bool false, .bool false] from by simp only [hasL]; grind])
          ·
            try simp only [Q0, Q1, Q2, Q3, Q4, Q5, Q6, Q7, Q8, ge_iff_le, gt_iff_lt] at hc22
            refine WP.seq fun K24 hK24 => ?_
            refine WP.reg tabOk rfl ?_
            refine u_step (o_bin_int rfl rfl (by decide) rfl ?_)
            refine u_step (o_assign rfl ?_)
            refine u_nil ?_
            refine hK24 _ ?_
            refine WP.cond rfl (fun hc25 => ?_) (fun hc25 => ?_)
            ·
              try simp only [Q0, Q1, Q2, Q3, Q4, Q5, Q6, Q7, Q8, ge_iff_le, gt_iff_lt] at hc25
              refine WP.seq fun K26 hK26 => ?_
              refine WP.reg tabOk rfl ?_
              refine u_step (o_assign rfl ?_)
              refine u_step (o_assign rfl ?_)
              refine u_step (o_assign rfl ?_)
              refine u_step (o_assign rfl ?_)
              refine u_step (o_assign rfl ?_)
              refine u_nil ?_
              refine hK26 _ ?_
              refine WP.ret ?_
              refine retT_ok ?_ (by omega) (fun _ _ => rfl)
              clear hK1 hK2 hK3 hK4 hK7 hK10 hK13 hK14 hK24 hK26
              simp only [beq_iff_eq, beq_eq_false_iff_ne, ne_eq] at hc5 hc8 hc11 hc15 hc22 hc25
              first | exact (show SV.tup (List.map SV.d [.bool true, .bool false, .bool true, .bool true, .bool false]) = _ from by rw [show hasL k = [.bool true, .bool false, .bool true, .bool true, .bool false] from by simp only [hasL]; grind]) | exact (show SV.tup (List.map SV.d [.bool true, .bool false, .bool true, .bool false, .bool true]) = _ from by rw [show hasL k = [.bool true, .bool false, .bool true, .bool false, .bool true] from by simp only [hasL]; grind]) | exact (show SV.tup (List.map SV.d [.bool true, .bool false, .bool true, .bool false, .bool false]) = _ from by rw [show hasL k = [.bool true, .bool false, .bool true, .bool false, .bool false] from by simp only [hasL]; grind]) | exact (show SV.tup (List.map SV.d [.bool true, .bool false, .bool false, .bool false, .bool false]) = _ from by rw [show hasL k = [.bool true, .bool false, .bool false, .bool false, .bool false] from by simp only [hasL]; grind]) | exact (show SV.tup (List.map SV.d [.bool true, .bool true, .bool false, .bool false, .bool false]) = _ from by rw [show hasL k = [.bool true, .bool true, .bool false, .bool false, .bool false] from by simp only [hasL]; grind]) | exact (show SV.tup (List.map SV.d [.bool false, .bool false, .bool false, .bool false, .bool false]) = _ from by rw [show hasL k = [.bool false, .bool false, .bool false, .bool false, .bool false] from by simp only [hasL]; grind])
            ·
              try simp only [Q0, Q1, Q2, Q3, Q4, Q5, Q6, Q7, Q8, ge_iff_le, gt_iff_lt] at hc25
              refine WP.skip ?_
              refine hK2 _ ?_
              refine WP.seq fun K27 hK27 => ?_
              refine WP.reg tabOk rfl ?_
              refine u_step (o_assign rfl ?_)
              refine u_step (o_assign rfl ?_)
              refine u_step (o_assign rfl ?_)
              refine u_step (o_assign rfl ?_)
              refine u_step (o_assign rfl ?_)
              refine u_nil ?_
              refine hK27 _ ?_
              refine WP.ret ?_
              refine retT_ok ?_ (by omega) (fun _ _ => rfl)
              clear hK1 hK2 hK3 hK4 hK7 hK10 hK13 hK14 hK24 hK27
              simp only [beq_iff_eq, beq_eq_false_iff_ne, ne_eq] at hc5 hc8 hc11 hc15 hc22 hc25
              first | exact (show SV.tup (List.map SV.d [.bool true, .bool false, .bool true, .bool true, .bool false]) = _ from by rw [show hasL k = [.bool true, .bool false, .bool true, .bool true, .bool false] from by simp only [hasL]; grind]) | exact (show SV.tup (List.map SV.d [.bool true, .bool false, .bool true, .bool false, .bool true]) = _ from by rw [show hasL k = [.bool true, .bool false, .bool true, .bool false, .bool true] from by simp only [hasL]; grind]) | exact (show SV.tup (List.map SV.d [.bool true, .bool false, .bool true, .bool false, .bool false]) = _ from by rw [show hasL k = [.bool true, .bool false, .bool true, .bool false, .bool false] from by simp only [hasL]; grind]) | exact (show SV.tup (List.map SV.d [.bool true, .bool false, .bool false, .bool false, .bool false]) = _ from by rw [show hasL k = [.bool true, .bool false, .bool false, .bool false, .bool false] from by simp only [hasL]; grind]) | exact (show SV.tup (List.map SV.d [.bool true, .bool true, .bool false, .bool false, .bool false]) = _ from by rw [show hasL k = [.bool true, .bool true, .bool false, .bool false, .bool false] from by simp only [hasL]; grind]) | exact (show SV.tup (List.map SV.d [.bool false, .bool false, .bool false, .bool false, .bool false]) = _ from by rw [show hasL k = [.bool false, .bool false, .bool false, .bool false, .bool false] from by simp only [hasL]; grind])

end Go.Proofs.YtpkcbdhjnnnkbaaGreat.Abs

/- Freezing a row wherever it is named; rows in the cells of variables. -/
set_option linter.unusedVariables false
set_option linter.unusedSimpArgs false
namespace Go.Proofs.YtpkcbdhjnnnkbaaGreat.Abs
open Go

def AO.frz (t : Nat) (x : D) : AO → AO
  | .box cs => .box (cs.map (SV.frz t x))
  | .row e z xs => .row e z xs
  | .raw ob => .raw ob
/-- The objects from k on, row t frozen. -/
def frzo (k : Nat) (o : Nat → Option AO) (t : Nat) (x : D) : Nat → Option AO := fun u => if u = t then none else if u < k then o u else (o u).map (AO.frz t x)
theorem AO.kin_frz (t : Nat) (x : D) (y : AO) : y.kin (y.frz t x) := by cases y <;> simp [AO.frz, AO.kin]
theorem frzo_some {k : Nat} {o : Nat → Option AO} {t : Nat} {x : D} {u : Nat} {y : AO} (h : frzo k o t x u = some y) : u ≠ t ∧ ∃ y0, o u = some y0 ∧ (y = y0 ∧ u < k ∨ y = y0.frz t x) := by
  unfold frzo at h
  split at h
  · cases h
  · rename_i hne
    split at h
    · rename_i hlt; exact ⟨hne, y, h, .inl ⟨rfl, hlt⟩⟩
    · obtain ⟨y0, h1, h2⟩ := Option.map_eq_some_iff.1 h
      exact ⟨hne, y0, h1, .inr h2.symm⟩

theorem Sto.freezeA {w : World} {S : Nat → Prop} {γ : Nat → Value} {o : Nat → Option AO} {nk : Nat} (h : Sto w S γ o nk) (k : Nat) {t : Nat} {e : TypeId} {z : Nat} {xs : List D} (ht : o t = some (.row e z xs)) :
    Sto w (fun b => S b ∨ blk (γ t) = some b) γ (frzo k o t (.sl z xs)) nk ∧ Tr w S γ o nk w (fun b => S b ∨ blk (γ t) = some b) γ (frzo k o t (.sl z xs)) nk ∧
    ∀ c v, SR w S γ o c v → c.lt nk → SR w (fun b => S b ∨ blk (γ t) = some b) γ (frzo k o t (.sl z xs)) (c.frz t (.sl z xs)) v := by
  obtain ⟨k1, k2, k3⟩ := h.freeze ht
  have hup : ∀ u y, u ≠ t → (upd o t none u = some y ↔ o u = some y) := fun u y hne => by rw [upd_ne _ _ hne]
  have hkeys : ∀ u y, u < nk → frzo k o t (.sl z xs) u = some y → ∃ y0, upd o t none u = some y0 ∧ AO.kin y0 y ∧ γ u = γ u := by
    intro u y _ hy
    obtain ⟨hne, y0, h0, h1⟩ := frzo_some hy
    refine ⟨y0, (hup u y0 hne).2 h0, ?_, rfl⟩
    rcases h1 with ⟨rfl, _⟩ | rfl
    · exact AO.kin_refl _
    · exact AO.kin_frz _ _ _
  have hsr : ∀ c v, SR w S γ o c v → c.lt nk → SR w (fun b => S b ∨ blk (γ t) = some b) γ (frzo k o t (.sl z xs)) (c.frz t (.sl z xs)) v := fun c v hr hl =>
    (hr.frz h ht hl).move (nk := nk) (fun _ h => h) (fun _ _ => rfl) hkeys (SV.frz_lt hl)
  have hsr0 : ∀ c v, SR w S γ o c v → c.lt nk → SR w (fun b => S b ∨ blk (γ t) = some b) γ (frzo k o t (.sl z xs)) c v := fun c v hr hl =>
    (hr.tr h k2 hl).move (nk := nk) (fun _ h => h) (fun _ _ => rfl) hkeys hl
  refine ⟨⟨k1.s_lt, ?_, ?_, ?_, ?_, ?_, ?_⟩, ⟨rfl, rfl, rfl, Nat.le_refl _, Nat.le_refl _, fun _ _ _ => rfl, fun _ h => .inl h, k2.s_new, ?_, ?_⟩, hsr⟩
  · intro u y hy
    obtain ⟨hne, y0, h0, _⟩ := frzo_some hy
    exact h.o_lt u y0 h0
  · intro u cs hc
    obtain ⟨hne, y0, h0, h1⟩ := frzo_some hc
    rcases h1 with ⟨rfl, hlt⟩ | h1
    · obtain ⟨⟨g, arr, ty, h4, h5, h6, h7⟩, hl⟩ := h.box u cs h0
      exact ⟨⟨g, arr, ty, h4, h5, h6, fun i c v h8 h9 => hsr0 c v (h7 i c v h8 h9) (lts_get hl i c h8)⟩, hl⟩
    · have : ∃ cs0, y0 = .box cs0 ∧ cs = cs0.map (SV.frz t (.sl z xs)) := by
        cases y0 with
        | box cs0 => simp only [AO.frz, AO.box.injEq] at h1; exact ⟨cs0, rfl, h1⟩
        | row => simp [AO.frz] at h1
        | raw => simp [AO.frz] at h1
      obtain ⟨cs0, rfl, rfl⟩ := this
      obtain ⟨⟨g, arr, ty, h4, h5, h6, h7⟩, hl⟩ := h.box u cs0 h0
      refine ⟨⟨g, arr, ty, h4, h5, by simp [h6], fun i c v h8 h9 => ?_⟩, lts_of fun i c hc => ?_⟩
      · rw [List.getElem?_map] at h8
        obtain ⟨c0, hc0, rfl⟩ := Option.map_eq_some_iff.1 h8
        exact hsr c0 v (h7 i c0 v hc0 h9) (lts_get hl i c0 hc0)
      · rw [List.getElem?_map] at hc
        obtain ⟨c0, hc0, rfl⟩ := Option.map_eq_some_iff.1 hc
        exact SV.frz_lt (lts_get hl i c0 hc0)
  · intro u e' z' ys hy
    obtain ⟨hne, y0, h0, h1⟩ := frzo_some hy
    have : y0 = .row e' z' ys := by
      rcases h1 with ⟨h1, _⟩ | h1
      · exact h1.symm
      · cases y0 <;> simp only [AO.frz] at h1 <;> first | cases h1; rfl | cases h1
    subst this
    exact k1.row u e' z' ys ((hup u _ hne).2 h0)
  · intro u ob hy
    obtain ⟨hne, y0, h0, h1⟩ := frzo_some hy
    have : y0 = .raw ob := by
      rcases h1 with ⟨h1, _⟩ | h1
      · exact h1.symm
      · cases y0 <;> simp only [AO.frz] at h1 <;> first | cases h1; rfl | cases h1
    subst this
    exact k1.raw u ob ((hup u _ hne).2 h0)
  · intro u y g hy hg
    obtain ⟨hne, y0, h0, _⟩ := frzo_some hy
    exact k1.away u y0 g ((hup u y0 hne).2 h0) hg
  · intro u u' y y' g hn hy hy' hg hg'
    obtain ⟨hne, y0, h0, _⟩ := frzo_some hy
    obtain ⟨hne', y0', h0', _⟩ := frzo_some hy'
    exact k1.apart u u' y0 y0' g hn ((hup u y0 hne).2 h0) ((hup u' y0' hne').2 h0') hg hg'
  · rintro g ⟨u, y, hy, hg⟩
    obtain ⟨hne, y0, h0, _⟩ := frzo_some hy
    exact .inr ⟨u, y0, h0, hg⟩
  · intro u y hu hy
    obtain ⟨hne, y0, h0, h1⟩ := frzo_some hy
    refine ⟨y0, h0, ?_, rfl⟩
    rcases h1 with ⟨rfl, _⟩ | rfl
    · exact AO.kin_refl _
    · exact AO.kin_frz _ _ _

theorem Rel.freezeA {E : Ent} {s : St} {a : Act} {w : World} (h : Rel E s a w) (k : Nat) {t : Nat} {e : TypeId} {z : Nat} {xs : List D} (ht : s.o t = some (.row e z xs)) :
    Rel E { sl := fun u => (s.sl u).frz t (.sl z xs), o := frzo k s.o t (.sl z xs), nk := s.nk } a w := by
  obtain ⟨S, γ, h⟩ := h
  obtain ⟨h1, h2, h3⟩ := h.sto.freezeA k ht
  exact ⟨_, γ, h1, h.tr.trans h2, fun u => h3 _ _ (h.sl u) (h.slt u), fun u => SV.frz_lt (h.slt u), h.df, h.nn⟩

/-- Some of the slots; row t frozen, in the variables too. -/
theorem WP.frzL {P : Program} {n k0 : Nat} {Q : Exit → St → Prop} {c : Code} {sl : Nat → SV} {o : Nat → Option AO} {nk : Nat} (l : List (Nat × SV)) (k : Nat) {t : Nat} {e : TypeId} {z : Nat} {xs : List D} (ht : o t = some (.row e z xs))
    (hl : ∀ p ∈ l, (sl p.1).frz t (.sl z xs) = p.2)
    (h : ∀ o1, (∀ u, u ≠ t → u < k → o1 u = o u) → (∀ u, u ≠ t → k ≤ u → o1 u = (o u).map (AO.frz t (.sl z xs))) → WP P n k0 c ⟨al l, o1, nk⟩ Q) : WP P n k0 c ⟨sl, o, nk⟩ Q := by
  refine WP.of (fun E a w _ hr => (hr.freezeA k ht)) (WP.le (Le.al hl) (h (frzo k o t (.sl z xs)) (fun u hu hk => ?_) fun u hu hk => ?_))
  · simp only [frzo]; rw [if_neg hu, if_pos hk]
  · simp only [frzo]; rw [if_neg hu, if_neg (by omega)]

/-- Less is told of a variable's cells. -/
theorem Sto.leBox {w : World} {S : Nat → Prop} {γ : Nat → Value} {o : Nat → Option AO} {nk : Nat} (h : Sto w S γ o nk) {b : Nat} {cs cs' : List SV} (hb : o b = some (.box cs)) (hl : SV.les cs cs') :
    Sto w S γ (upd o b (some (.box cs'))) nk ∧ Tr w S γ o nk w S γ (upd o b (some (.box cs'))) nk ∧ ∀ c v, SR w S γ o c v → c.lt nk → SR w S γ (upd o b (some (.box cs'))) c v := by
  have hkeys : ∀ u y, u < nk → upd o b (some (.box cs')) u = some y → ∃ y0, o u = some y0 ∧ AO.kin y0 y ∧ γ u = γ u := by
    intro u y _ hy
    unfold upd at hy
    split at hy
    · rename_i he
      subst he
      injection hy with hy
      subst hy
      exact ⟨_, hb, trivial, rfl⟩
    · exact ⟨y, hy, AO.kin_refl _, rfl⟩
  have hsome : ∀ u y, upd o b (some (.box cs')) u = some y → ∃ y0, o u = some y0 := by
    intro u y hy
    unfold upd at hy
    split at hy
    · rename_i he; subst he; exact ⟨_, hb⟩
    · exact ⟨y, hy⟩
  have hsr : ∀ c v, SR w S γ o c v → c.lt nk → SR w S γ (upd o b (some (.box cs'))) c v := fun c v hr hlt => hr.move (nk := nk) (fun _ h => h) (fun _ _ => rfl) hkeys hlt
  refine ⟨⟨h.s_lt, ?_, ?_, ?_, ?_, ?_, ?_⟩, ⟨rfl, rfl, rfl, Nat.le_refl _, Nat.le_refl _, fun _ _ _ => rfl, fun _ h => h, fun _ h => .inl h, ?_, hkeys⟩, hsr⟩
  · intro u y hy
    obtain ⟨y0, h0⟩ := hsome u y hy
    exact h.o_lt u y0 h0
  · intro u ds hd
    have key : ∃ cs0, o u = some (.box cs0) ∧ SV.les cs0 ds := by
      unfold upd at hd
      split at hd
      · rename_i he
        subst he
        injection hd with hd
        injection hd with hd
        subst hd
        exact ⟨cs, hb, hl⟩
      · refine ⟨ds, hd, ?_⟩
        clear hd
        induction ds with
        | nil => trivial
        | cons d ds ih =>
          refine ⟨?_, ih⟩
          cases d <;> first | exact D.le_refl _ | rfl
    obtain ⟨cs0, h0, h1⟩ := key
    obtain ⟨⟨g, arr, ty, h4, h5, h6, h7⟩, hlt⟩ := h.box u cs0 h0
    refine ⟨⟨g, arr, ty, h4, h5, by rw [h6, SV.les_length h1], fun i c v h8 h9 => ?_⟩, lts_of fun i c hc => ?_⟩
    · obtain ⟨x, h10, h11⟩ := SV.les_get h1 i c h8
      exact hsr c v ((h7 i x v h10 h9).le h11) (SV.le_lt h11 (lts_get hlt i x h10))
    · obtain ⟨x, h10, h11⟩ := SV.les_get h1 i c hc
      exact SV.le_lt h11 (lts_get hlt i x h10)
  · intro u e z ys hy
    refine h.row u e z ys ?_
    unfold upd at hy
    split at hy
    · cases hy
    · exact hy
  · intro u ob hy
    refine h.raw u ob ?_
    unfold upd at hy
    split at hy
    · cases hy
    · exact hy
  · intro u y g hy hg
    obtain ⟨y0, h0⟩ := hsome u y hy
    exact h.away u y0 g h0 hg
  · intro u u' y y' g hn hy hy' hg hg'
    obtain ⟨y0, h0⟩ := hsome u y hy
    obtain ⟨y0', h0'⟩ := hsome u' y' hy'
    exact h.apart u u' y0 y0' g hn h0 h0' hg hg'
  · rintro g ⟨u, y, hy, hg⟩
    obtain ⟨y0, h0⟩ := hsome u y hy
    exact .inr ⟨u, y0, h0, hg⟩

theorem WP.leB {P : Program} {n k0 : Nat} {Q : Exit → St → Prop} {c : Code} {sl : Nat → SV} {o : Nat → Option AO} {nk : Nat} {b : Nat} {cs : List SV} (cs' : List SV) (hb : o b = some (.box cs)) (hl : SV.les cs cs')
    (h : ∀ o1, o1 b = some (.box cs') → (∀ u, u ≠ b → o1 u = o u) → WP P n k0 c ⟨sl, o1, nk⟩ Q) : WP P n k0 c ⟨sl, o, nk⟩ Q := by
  refine WP.of (fun E a w _ hr => ?_) (h (upd o b (some (.box cs'))) (upd_same _ _ _) fun u hu => upd_ne _ _ hu)
  obtain ⟨S, γ, hr⟩ := hr
  obtain ⟨h1, h2, h3⟩ := hr.sto.leBox hb hl
  exact ⟨S, γ, h1, hr.tr.trans h2, fun u => h3 _ _ (hr.sl u) (hr.slt u), hr.slt, hr.df, hr.nn⟩

/-- The row that lies in a variable's cell, or the nothing that does: frozen. -/
theorem WP.frzC {P : Program} {n k0 : Nat} {Q : Exit → St → Prop} {c : Code} {sl : Nat → SV} {o : Nat → Option AO} {nk : Nat} (l : List (Nat × SV)) (k : Nat) {b e z : Nat} {pre post : List SV} {x : SV} {q : Option Nat} {xs : List D} (hb : o b = some (.box (pre ++ x :: post))) (hx : dstOf o e z x = some (q, xs)) (hkb : k ≤ b)
    (hp : ∀ t, q = some t → pre.map (SV.frz t (.sl z xs)) = pre ∧ post.map (SV.frz t (.sl z xs)) = post) (hl : ∀ t, q = some t → ∀ p ∈ l, (sl p.1).frz t (.sl z xs) = p.2) (hl0 : q = none → ∀ p ∈ l, sl p.1 = p.2)
    (h : ∀ o1, o1 b = some (.box (pre ++ .d (.sl z xs) :: post)) → (∀ u, u < k → q ≠ some u → o1 u = o u) → (∀ u cs, u ≠ b → o u = some (.box cs) → (∀ t, q = some t → cs.map (SV.frz t (.sl z xs)) = cs) → o1 u = some (.box cs)) → WP P n k0 c ⟨al l, o1, nk⟩ Q) : WP P n k0 c ⟨sl, o, nk⟩ Q := by
  cases q with
  | none =>
    have hn : x = .d .nil ∧ xs = [] := by
      unfold dstOf at hx
      split at hx <;> first | cases hx | skip
      · exact ⟨rfl, rfl⟩
      · split at hx
        · split at hx <;> cases hx
        · cases hx
    obtain ⟨rfl, rfl⟩ := hn
    have les_refl : ∀ ds : List SV, SV.les ds ds := fun ds => by
      induction ds with
      | nil => trivial
      | cons d ds ih =>
        refine ⟨?_, ih⟩
        cases d <;> first | exact D.le_refl _ | rfl
    have hle : SV.les (pre ++ .d .nil :: post) (pre ++ .d (.sl z []) :: post) := by
      clear hb hp hl h
      induction pre with
      | nil => exact ⟨rfl, les_refl post⟩
      | cons d ds ih =>
        refine ⟨?_, ih⟩
        cases d <;> first | exact D.le_refl _ | rfl
    refine WP.le (Le.al (hl0 rfl)) (WP.leB _ hb hle fun o1 h1 h2 => h o1 h1 (fun u hu _ => h2 u (by omega)) fun u cs hu hcs _ => (h2 u hu).trans hcs)
  | some t =>
    have hn : x = .row t ∧ o t = some (.row e z xs) := by
      unfold dstOf at hx
      split at hx <;> first | cases hx | skip
      split at hx
      · split at hx
        · rename_i h1 h2
          simp only [Option.some.injEq, Prod.mk.injEq] at hx
          obtain ⟨rfl, rfl⟩ := hx
          obtain ⟨rfl, rfl⟩ := h2
          exact ⟨rfl, h1⟩
        · cases hx
      · cases hx
    obtain ⟨rfl, ht⟩ := hn
    have hbt : b ≠ t := fun e => by rw [e, ht] at hb; cases hb
    refine WP.frzL l k ht (hl t rfl) fun o1 h1 h2 => h o1 ?_ (fun u hu hq => h1 u (fun e => hq (by rw [e])) hu) fun u cs hu hcs hm => ?_
    rotate_left
    · have hut : u ≠ t := fun e => by rw [e, ht] at hcs; cases hcs
      rcases Nat.lt_or_ge u k with hk | hk
      · rw [h1 u hut hk, hcs]
      · rw [h2 u hut hk, hcs]
        simp only [Option.map_some, AO.frz, hm t rfl]
    rw [h2 b hbt hkb, hb]
    simp only [Option.map_some, AO.frz, List.map_append, List.map_cons, (hp t rfl).1, (hp t rfl).2, SV.frz, if_true]

theorem g_stV {P : Program} {Θ : Tab} {K : SV → (Nat → Option AO) → Nat → Prop} {sl : Nat → SV} {o : Nat → Option AO} {nk : Nat} {x y : Operand} {t : Nat} {i : TI} {k g q e z : Nat} {xs : List D} {cs : List SV} (hx : ev sl x = .loc k g) (hy : ev sl y = .row q) (hq : o q = some (.row e z xs)) (hi : Θ t = some i) (hs : i.sz = 1) (ho : o k = some (.box cs)) (hle : g < cs.length) (h : ∀ o1, o1 k = some (.box (cs.take g ++ [.row q] ++ cs.drop (g + 1))) → (∀ t, t ≠ k → o1 t = o t) → K .any o1 nk) : vOp P Θ (.store t x y) ⟨sl, o, nk⟩ K := by
  refine ⟨i, [.row q], hi, ?_, hs.symm, ?_⟩
  · show (ev sl y).cells o = _
    rw [hy]; simp [SV.cells, hq]
  · show (match ev sl x with | .loc k f => _ | _ => False)
    rw [hx]
    exact ⟨cs, ho, by simp; omega, h _ (upd_same _ _ _) fun _ ht => upd_ne _ _ ht⟩
end Go.Proofs.YtpkcbdhjnnnkbaaGreat.Abs

/- Drawn regions in which objects are made or changed, one behind the other. -/
set_option linter.unusedVariables false
set_option linter.unusedSimpArgs false
namespace Go.Proofs.YtpkcbdhjnnnkbaaGreat.Abs
open Go

/-- What an operation does to the objects: nothing, between two counts of changes; the change of a number. -/
inductive Kd where
  | q (lo hi : Nat)
  | w (j : Nat)
  deriving DecidableEq

/-- What must have run before an operation. -/
def ancs (ops : List Oper) : Nat → List (List Nat)
  | 0 => []
  | n + 1 => ancs ops n ++ [match ops[n]? with
    | some o => (onsOf o ++ (onsOf o).flatMap fun j => (ancs ops n).getD j []).eraseDups
    | none => []]
theorem ancs_length (ops : List Oper) : ∀ n, (ancs ops n).length = n
  | 0 => rfl
  | n + 1 => by simp [ancs, ancs_length ops n]
theorem ancs_closed {ops : List Oper} {listed : Array Bool} (hlt : ∀ (i : Nat) (o : Oper), ops[i]? = some o → ∀ k ∈ onsOf o, k < i)
    (hcl : ∀ (j : Nat) (p : Oper), ops[j]? = some p → listed.getD j false = true → ∀ k ∈ onsOf p, listed.getD k false = true) :
    ∀ n i o, i < n → ops[i]? = some o → (∀ k ∈ onsOf o, listed.getD k false = true) → ∀ k ∈ (ancs ops n).getD i [], listed.getD k false = true
  | 0, i, o, h, _, _, _, _ => by omega
  | n + 1, i, o, h, ho, hon, k, hk => by
    by_cases hi : i < n
    · rw [ancs, List.getD_eq_getElem?_getD, List.getElem?_append_left (by rw [ancs_length]; exact hi), ← List.getD_eq_getElem?_getD] at hk
      exact ancs_closed hlt hcl n i o hi ho hon k hk
    · have : i = n := by omega
      subst this
      rw [ancs, List.getD_eq_getElem?_getD, List.getElem?_append_right (by rw [ancs_length]; exact Nat.le_refl _), ancs_length, Nat.sub_self, ho] at hk
      simp only [List.getElem?_cons_zero, Option.getD_some, List.mem_eraseDups, List.mem_append, List.mem_flatMap] at hk
      rcases hk with hk | ⟨j, hj, hk⟩
      · exact hon k hk
      · have hji := hlt i o ho j hj
        have hjl := hon j hj
        cases hp : ops[j]? with
        | none =>
          have : i < ops.length := (List.getElem?_eq_some_iff.1 ho).1
          have := List.getElem?_eq_none_iff.1 hp
          omega
        | some p => exact ancs_closed hlt hcl i j p hji hp (hcl j p hp hjl) k hk

def ancB (ops : List Oper) (i k : Nat) : Bool := ((ancs ops ops.length).getD i []).contains k

/-- The operations' kinds fit the order. -/
def phOk (ops : List Oper) (kd : List Kd) (wr : List Nat) : Bool :=
  decide (kd.length = ops.length) && decide wr.Nodup &&
  (wr.zipIdx.all fun x => decide (kd[x.1]? = some (.w x.2))) &&
  kd.zipIdx.all fun x => match x.1 with
    | .q lo hi => decide (lo ≤ wr.length) && !wr.contains x.2 && (wr.zipIdx.all fun y => (!decide (y.2 < lo) || ancB ops x.2 y.1) && (!decide (hi ≤ y.2) || ancB ops y.1 x.2))
    | .w j => decide (wr[j]? = some x.2) && wr.zipIdx.all fun y => !decide (y.2 < j) || ancB ops x.2 y.1

abbrev Ob := (Nat → Option AO) × Nat
def allP (n : Nat) (R : Nat → Prop) (lo : Nat) : Prop :=
  match n with
  | 0 => R lo
  | n + 1 => R lo ∧ allP n R (lo + 1)
theorem allP_at {R : Nat → Prop} : ∀ (n lo p : Nat), allP n R lo → lo ≤ p → p ≤ lo + n → R p
  | 0, lo, p, h, h1, h2 => by
    have : p = lo := by omega
    subst this; exact h
  | n + 1, lo, p, h, h1, h2 => by
    by_cases hp : p = lo
    · subst hp; exact h.1
    · exact allP_at n (lo + 1) p h.2 (by omega) (by omega)

/-- One operation: what it yields, whenever it is its turn. -/
def eOp (P : Program) (Θ : Tab) (ops : Array Oper) (ph : Nat → Ob) (o : Oper) (sl : Nat → SV) (v : SV) : Kd → Prop
  | .q lo hi => allP (hi - lo) (fun p => gOp P Θ ops o ⟨sl, (ph p).1, (ph p).2⟩ v) lo
  | .w j => o.guard = none ∧ vOp P Θ o.op ⟨sl, (ph j).1, (ph j).2⟩ fun v' o' nk' => v' = v ∧ o' = (ph (j + 1)).1 ∧ nk' = (ph (j + 1)).2
def eOps (P : Program) (Θ : Tab) (ops : Array Oper) (K : St → Prop) (ph : Nat → Ob) (m : Nat) : List Oper → List Kd → (Nat → SV) → Prop
  | o :: r, k :: ks, sl => ∃ v, eOp P Θ ops ph o sl v k ∧ eOps P Θ ops K ph m r ks (pt sl o.dst v)
  | [], [], sl => K ⟨sl, (ph m).1, (ph m).2⟩
  | _, _, _ => False

theorem eOps_spec {P : Program} {Θ : Tab} {ops : Array Oper} {K : St → Prop} {ph : Nat → Ob} {m : Nat} : ∀ (l : List Oper) (ks : List Kd) (sl : Nat → SV), eOps P Θ ops K ph m l ks sl →
    ∃ vs : List SV, vs.length = l.length ∧ (∀ (i : Nat) (o : Oper) (v : SV) (k : Kd), l[i]? = some o → vs[i]? = some v → ks[i]? = some k → eOp P Θ ops ph o (slAt sl (((l.map (·.dst)).zip vs).take i)) v k) ∧
      K ⟨slAt sl ((l.map (·.dst)).zip vs), (ph m).1, (ph m).2⟩
  | [], [], sl, h => ⟨[], rfl, by simp, h⟩
  | [], k :: ks, sl, h => h.elim
  | o :: r, [], sl, h => h.elim
  | o :: r, k :: ks, sl, h => by
    obtain ⟨v, h1, h2⟩ := h
    obtain ⟨vs, h3, h4, h5⟩ := eOps_spec r ks _ h2
    refine ⟨v :: vs, by simp [h3], fun i p x q hp hx hq => ?_, h5⟩
    cases i with
    | zero =>
      simp only [List.getElem?_cons_zero, Option.some.injEq] at hp hx hq
      subst hp; subst hx; subst hq
      exact h1
    | succ i => exact h4 i p x q (by simpa using hp) (by simpa using hx) (by simpa using hq)

section
variable {P : Program} {Θ : Tab} {n k0 : Nat} {Q : Exit → St → Prop}

theorem WP.drawnW (hΘ : TabOk P Θ) (hm : P.follows .mixedOrders = true) {sl : Nat → SV} {id : Nat} {ops : Array Oper} (kd : List Kd) (wr : List Nat) (ph : Nat → Ob) (hd : (ops.toList.all fun o => dstOk n o.dst) = true) (hflow : flowOk ops = true) (hph : phOk ops.toList kd wr = true)
    (h : eOps P Θ ops (Q .normal) ph wr.length ops.toList kd sl) : WP P n k0 (.region id ops true) ⟨sl, (ph 0).1, (ph 0).2⟩ Q := by
  intro E a w e1 e2 hrel
  refine wp_region_any hm ?_
  obtain ⟨vs, hvl, hop, hfin⟩ := eOps_spec _ _ _ h
  generalize hprs : (ops.toList.map (·.dst)).zip vs = prs at hop hfin
  simp only [phOk, Bool.and_eq_true, decide_eq_true_eq] at hph
  obtain ⟨⟨⟨hkl, hnd⟩, hwk⟩, hkd⟩ := hph
  have hwk' : ∀ j i, wr[j]? = some i → kd[i]? = some (Kd.w j) := fun j i hj => by
    have := List.all_eq_true.1 hwk (i, j) (by rw [List.mem_zipIdx_iff_getElem?]; exact hj)
    simpa using this
  have hget : ∀ (j : Nat) (o : Oper), ops[j]? = some o → ∃ v, vs[j]? = some v ∧ prs[j]? = some (o.dst, v) := fun j o hj => by
    have hlt : j < ops.size := (Array.getElem?_eq_some_iff.1 hj).1
    have hv : vs[j]? = some (vs[j]'(by rw [hvl]; simpa using hlt)) := List.getElem?_eq_getElem _
    refine ⟨_, hv, ?_⟩
    rw [← hprs, List.getElem?_zip_eq_some]
    refine ⟨?_, hv⟩
    rw [List.getElem?_map]
    have : ops.toList[j]? = some o := by simpa using hj
    rw [this]; rfl
  have hback : ∀ (j : Nat) (d : Option Nat) (v : SV), prs[j]? = some (d, v) → ∃ o, ops[j]? = some o ∧ o.dst = d ∧ vs[j]? = some v := fun j d v hj => by
    rw [← hprs, List.getElem?_zip_eq_some, List.getElem?_map] at hj
    obtain ⟨h1, h2⟩ := hj
    obtain ⟨o, ho, rfl⟩ := Option.map_eq_some_iff.1 h1
    exact ⟨o, by simpa using ho, rfl, h2⟩
  have huniq : Uniq prs := fun i j u v x hi hj => by
    obtain ⟨o, ho, hod, _⟩ := hback i _ v hi
    obtain ⟨p, hp, hpd, _⟩ := hback j _ x hj
    have := (flow_spec hflow ho).2 j p hp
    simp only [flowAt, hpd, Bool.and_eq_true, Bool.or_eq_true, beq_iff_eq] at this
    rcases this.1 with h1 | h1
    · exact h1
    · simp [hod] at h1
  have hons : ∀ {o : Oper} {e : Edge}, e ∈ o.after → Region.binds .any e = true → e.on ∈ onsOf o := fun {o e} he hb => by
    simp only [onsOf, List.mem_map, List.mem_filter]
    exact ⟨e, ⟨by simpa using he, hb⟩, rfl⟩
  have hons' : ∀ {o : Oper} {j : Nat}, j ∈ onsOf o → ∃ e ∈ o.after, Region.binds .any e = true ∧ e.on = j := fun {o j} hj => by
    simp only [onsOf, List.mem_map, List.mem_filter] at hj
    obtain ⟨e, ⟨h1, h2⟩, h3⟩ := hj
    exact ⟨e, by simpa using h1, h2, h3⟩
  have honlt : ∀ (i : Nat) (o : Oper), ops.toList[i]? = some o → ∀ k ∈ onsOf o, k < i := fun i o ho => (flow_spec hflow (by simpa using ho)).1
  have hsl : ∀ (listed : Array Bool) (i : Nat) (o : Oper), (∀ (j : Nat) (p : Oper), ops[j]? = some p → listed.getD j false = true → ∀ k ∈ onsOf p, listed.getD k false = true) →
      ops[i]? = some o → listed.getD i true = false → (∀ k ∈ onsOf o, listed.getD k false = true) → ∀ u ∈ o.looksAt ops, slAt sl (prs.take i) u = slL sl prs listed u := by
    intro listed i o hcl ho hi hon u hu
    by_cases hex : ∃ (j : Nat) (x : SV), prs[j]? = some (some u, x)
    · obtain ⟨j, x, hj⟩ := hex
      obtain ⟨p, hp, hpd, _⟩ := hback j _ x hj
      have hfl := (flow_spec hflow ho).2 j p hp
      have hlook : (o.looksAt ops).contains u = true := by simpa using hu
      simp only [flowAt, hpd, Bool.and_eq_true, Bool.or_eq_true, beq_iff_eq, hlook, Bool.not_true, Bool.false_eq_true, false_or, decide_eq_true_eq, List.contains_eq_mem] at hfl
      rcases hfl.2 with ⟨h1, h2⟩ | ⟨h1, h2⟩
      · rw [slL_hit huniq hj (hon j h2)]
        refine slAt_hit _ _ j (by rw [List.getElem?_take, if_pos h1]; exact hj) fun k y hk => ?_
        rw [List.getElem?_take] at hk
        split at hk
        · exact huniq k j u y x hk hj
        · cases hk
      · rw [slAt_miss, slL_miss]
        · intro k y hk hl
          have := huniq k j u y x hk hj
          subst this
          have := hcl k p hp hl i h2
          have hif : listed.getD i false = false := by
            rcases Nat.lt_or_ge i listed.size with h' | h'
            · simp [h'] at hi ⊢; exact hi
            · simp [Array.getElem?_eq_none h'] at hi
          rw [hif] at this
          cases this
        · intro y hy
          obtain ⟨k, hk⟩ := List.getElem?_of_mem hy
          rw [List.getElem?_take] at hk
          split at hk
          · have := huniq k j u y x hk hj
            omega
          · cases hk
    · rw [slAt_miss, slL_miss]
      · exact fun k y hk _ => hex ⟨k, y, hk⟩
      · intro y hy
        obtain ⟨k, hk⟩ := List.getElem?_of_mem (List.mem_of_mem_take hy)
        exact hex ⟨k, y, hk⟩
  have hall : ∀ listed : Array Bool, (∀ i, i < ops.size → listed.getD i true = true) → slL sl prs listed = slAt sl prs ∨ ops.size > listed.size := by
    intro listed hL
    rcases Nat.lt_or_ge listed.size ops.size with h' | h'
    · exact .inr h'
    · left
      funext u
      by_cases hex : ∃ (j : Nat) (x : SV), prs[j]? = some (some u, x)
      · obtain ⟨j, x, hj⟩ := hex
        obtain ⟨p, hp, _, _⟩ := hback j _ x hj
        have hlt : j < ops.size := (Array.getElem?_eq_some_iff.1 hp).1
        rw [slL_hit huniq hj, slAt_hit _ _ j hj fun k y hk => huniq k j u y x hk hj]
        have := hL j hlt
        have hlt' : j < listed.size := by omega
        simp [hlt'] at this ⊢
        exact this
      · rw [slAt_miss, slL_miss]
        · exact fun k y hk _ => hex ⟨k, y, hk⟩
        · intro y hy
          obtain ⟨k, hk⟩ := List.getElem?_of_mem hy
          exact hex ⟨k, y, hk⟩
  have hwlt : ∀ j i, wr[j]? = some i → i < ops.size := fun j i hj => by
    have := (List.getElem?_eq_some_iff.1 (hwk' j i hj)).1
    rw [hkl] at this
    simpa using this
  -- all orders
  have main : ∀ (fuel : Nat) (listed : Array Bool) (p : Nat) (a : Act) (w : World), listed.size = ops.size → unl listed ops.size ≤ fuel → p ≤ wr.length → (∀ j i, wr[j]? = some i → (listed.getD i false = true ↔ j < p)) →
      (∀ (j : Nat) (p : Oper), ops[j]? = some p → listed.getD j false = true → ∀ k ∈ onsOf p, listed.getD k false = true) →
      Rel E ⟨slL sl prs listed, (ph p).1, (ph p).2⟩ a w →
      wpAny P .any ops (fun e a' w' => ∃ s', Rel E s' a' w' ∧ Q e s') fuel listed a w := by
    intro fuel
    have hdone : ∀ (listed : Array Bool) (p : Nat) (a : Act) (w : World), listed.size = ops.size → p ≤ wr.length → (∀ j i, wr[j]? = some i → (listed.getD i false = true ↔ j < p)) →
        (∀ i, i < ops.size → listed.getD i true = true) → Rel E ⟨slL sl prs listed, (ph p).1, (ph p).2⟩ a w → ∃ s', Rel E s' a w ∧ Q .normal s' := by
      intro listed p a w hsz hp hwp hL hr
      have hpe : p = wr.length := by
        by_cases h : p < wr.length
        · have h1 := hwp p wr[p] (List.getElem?_eq_getElem h)
          have h2 := hL wr[p] (hwlt p _ (List.getElem?_eq_getElem h))
          have h3 : listed.getD wr[p] false = true := by
            have : wr[p] < listed.size := by rw [hsz]; exact hwlt p _ (List.getElem?_eq_getElem h)
            simp [this] at h2 ⊢
            exact h2
          have := h1.1 h3
          omega
        · omega
      subst hpe
      refine ⟨_, hr, ?_⟩
      rcases hall listed hL with h1 | h1
      · rw [h1]; exact hfin
      · omega
    induction fuel with
    | zero =>
      intro listed p a w hsz hun hp hwp hcl hr
      have hL := unl_zero ops.size (by omega) (listed := listed)
      obtain ⟨s', h1, h2⟩ := hdone listed p a w hsz hp hwp hL hr
      refine ⟨?_, s', h1, h2⟩
      rw [List.eq_nil_iff_forall_not_mem]
      intro i hi
      rw [mem_ready] at hi
      obtain ⟨h0, o, ho, _⟩ := hi
      have := hL i (Array.getElem?_eq_some_iff.1 ho).1
      rw [this] at h0
      cases h0
    | succ fuel ih =>
      intro listed p a w hsz hun hp hwp hcl hr
      refine ⟨fun hnil => ?_, fun i hi => ?_⟩
      · have hL : ∀ i, i < ops.size → listed.getD i true = true := by
          intro i
          induction i using Nat.strongRecOn with
          | _ i ihi =>
            intro hlt
            by_cases hl : listed.getD i true = true
            · exact hl
            · exfalso
              simp only [Bool.not_eq_true] at hl
              have hmem : i ∈ Region.ready .any ops listed := by
                rw [mem_ready]
                refine ⟨hl, ops[i], by simp [hlt], fun e he hb => ?_⟩
                have hlt2 := (flow_spec hflow (i := i) (o := ops[i]) (by simp [hlt])).1 e.on (hons he hb)
                have := ihi e.on hlt2 (by omega)
                have hlt3 : e.on < listed.size := by omega
                simp [hlt3] at this ⊢
                exact this
              rw [hnil] at hmem
              cases hmem
        exact hdone listed p a w hsz hp hwp hL hr
      · have hi' := hi
        rw [mem_ready] at hi'
        obtain ⟨h0, o, ho, hon⟩ := hi'
        have hilt : i < ops.size := (Array.getElem?_eq_some_iff.1 ho).1
        have h0f : listed.getD i false = false := by
          have : i < listed.size := by omega
          simp [this] at h0 ⊢; exact h0
        obtain ⟨v, hv, hpv⟩ := hget i o ho
        have hon' : ∀ k ∈ onsOf o, listed.getD k false = true := fun k hk => by
          obtain ⟨e, h1, h2, rfl⟩ := hons' hk
          exact hon e h1 h2
        have hcl' : ∀ (j : Nat) (p : Oper), ops.toList[j]? = some p → listed.getD j false = true → ∀ k ∈ onsOf p, listed.getD k false = true := fun j p hj => hcl j p (by simpa using hj)
        have hanc : ∀ k, ancB ops.toList i k = true → listed.getD k false = true := fun k hk => by
          refine ancs_closed honlt hcl' ops.toList.length i o (by simpa using hilt) (by simpa using ho) hon' k ?_
          simpa [ancB] using hk
        have hancw : ∀ (j x : Nat), ancB ops.toList j x = true → listed.getD j false = true → listed.getD x false = true := fun j x hx hj => by
          cases hq : ops[j]? with
          | none =>
            have : listed.getD j false = false := by
              have := Array.getElem?_eq_none_iff.1 hq
              have : ¬ j < listed.size := by omega
              simp [this]
            rw [this] at hj; cases hj
          | some q =>
            refine ancs_closed honlt hcl' ops.toList.length j q (by simpa using (Array.getElem?_eq_some_iff.1 hq).1) (by simpa using hq) (hcl j q hq hj) x ?_
            simpa [ancB] using hx
        obtain ⟨k, hk⟩ : ∃ k, kd[i]? = some k := ⟨kd[i]'(by rw [hkl]; simpa using hilt), List.getElem?_eq_getElem _⟩
        have hkd' := List.all_eq_true.1 hkd (k, i) (by rw [List.mem_zipIdx_iff_getElem?]; exact hk)
        have he := hop i o v k (by simpa using ho) hv hk
        have hdo : dstOk E.n o.dst = true := by
          rw [e1]
          exact List.all_eq_true.1 hd o (by
            have : ops.toList[i]? = some o := by simpa using ho
            exact List.mem_of_getElem? this)
        have hpt : slL sl prs (listed.setIfInBounds i true) = pt (slL sl prs listed) o.dst v := by
          have hli : (listed.setIfInBounds i true).getD i false = true := by
            have : i < listed.size := by rw [hsz]; exact hilt
            simp [this]
          have hlf : ∀ j, j ≠ i → (listed.setIfInBounds i true).getD j false = listed.getD j false := fun j hj => getD_set_ne false (Ne.symm hj)
          funext u
          by_cases hex : ∃ (j : Nat) (x : SV), prs[j]? = some (some u, x)
          · obtain ⟨j, x, hj⟩ := hex
            by_cases hji : j = i
            · subst hji
              rw [hj] at hpv
              simp only [Option.some.injEq, Prod.mk.injEq] at hpv
              obtain ⟨h1, h2⟩ := hpv
              rw [slL_hit huniq hj hli, ← h1, h2]
              exact (upd_same _ _ _).symm
            · have hne : o.dst ≠ some u := fun e => hji (huniq j i u x v hj (by rw [hpv, e]))
              have hp : pt (slL sl prs listed) o.dst v u = slL sl prs listed u := by
                cases hod : o.dst with
                | none => rfl
                | some d => exact upd_ne _ _ fun e => hne (by rw [hod, e])
              rw [hp]
              by_cases hl : listed.getD j false = true
              · rw [slL_hit huniq hj hl, slL_hit huniq hj (by rw [hlf j hji]; exact hl)]
              · rw [slL_miss, slL_miss]
                · intro k y hk hlk
                  have := huniq k j u y x hk hj
                  subst this
                  exact hl hlk
                · intro k y hk hlk
                  have := huniq k j u y x hk hj
                  subst this
                  rw [hlf k hji] at hlk
                  exact hl hlk
          · have hne : o.dst ≠ some u := fun e => hex ⟨i, v, by rw [hpv, e]⟩
            have hp : pt (slL sl prs listed) o.dst v u = slL sl prs listed u := by
              cases hod : o.dst with
              | none => rfl
              | some d => exact upd_ne _ _ fun e => hne (by rw [hod, e])
            rw [hp, slL_miss, slL_miss]
            · exact fun k y hk _ => hex ⟨k, y, hk⟩
            · exact fun k y hk _ => hex ⟨k, y, hk⟩
        have hcl2 : ∀ (j : Nat) (p : Oper), ops[j]? = some p → (listed.setIfInBounds i true).getD j false = true → ∀ k ∈ onsOf p, (listed.setIfInBounds i true).getD k false = true := by
          intro j p hj hl k hk
          by_cases hji : j = i
          · subst hji
            rw [ho] at hj
            simp only [Option.some.injEq] at hj
            subst hj
            exact getD_set_true (hon' k hk)
          · rw [getD_set_ne false (Ne.symm hji)] at hl
            exact getD_set_true (hcl j p hj hl k hk)
        have hun2 : unl (listed.setIfInBounds i true) ops.size ≤ fuel := by
          have := unl_set h0 ops.size
          rw [if_pos hilt] at this
          omega
        have hseti : (listed.setIfInBounds i true).getD i false = true := by
          have : i < listed.size := by rw [hsz]; exact hilt
          simp [this]
        show wpOp P ops _ i _ a w
        unfold wpOp
        rw [ho]
        simp only
        cases k with
        | q lo hi =>
          simp only [Bool.and_eq_true, decide_eq_true_eq, Bool.not_eq_true'] at hkd'
          obtain ⟨⟨hlo, hnw⟩, hky⟩ := hkd'
          have hni : ∀ j, wr[j]? ≠ some i := fun j hj => by
            have : wr.contains i = true := by simpa using List.mem_of_getElem? hj
            rw [hnw] at this; cases this
          have hky' : ∀ j x, wr[j]? = some x → (j < lo → ancB ops.toList i x = true) ∧ (hi ≤ j → ancB ops.toList x i = true) := fun j x hj => by
            have := List.all_eq_true.1 hky (x, j) (by rw [List.mem_zipIdx_iff_getElem?]; exact hj)
            simp only [Bool.and_eq_true, Bool.or_eq_true, Bool.not_eq_true', decide_eq_false_iff_not] at this
            exact ⟨fun h => this.1.resolve_left fun h' => h' h, fun h => this.2.resolve_left fun h' => h' h⟩
          have hplo : lo ≤ p := by
            rcases Nat.lt_or_ge p lo with h | h
            · have hlt : p < wr.length := by omega
              have hw := List.getElem?_eq_getElem hlt
              have h1 := hanc _ ((hky' p _ hw).1 h)
              have := (hwp p _ hw).1 h1
              omega
            · exact h
          have hphi : p ≤ hi := by
            rcases Nat.lt_or_ge hi p with h | h
            · have hlt : hi < wr.length := by omega
              have hw := List.getElem?_eq_getElem hlt
              have h1 := (hwp hi _ hw).2 h
              have h2 := hancw _ _ ((hky' hi _ hw).2 (Nat.le_refl _)) h1
              rw [h0f] at h2; cases h2
            · exact h
          have hg0 := allP_at (hi - lo) lo p he hplo (by omega)
          have hg : gOp P Θ ops o ⟨slL sl prs listed, (ph p).1, (ph p).2⟩ v := gOp_congr (s := ⟨slAt sl (prs.take i), (ph p).1, (ph p).2⟩) (fun u hu => hsl listed i o hcl ho h0 hon' u hu) rfl rfl hg0
          have hstep := g_step (Q := fun e a' w' => ∃ s', Rel E s' a' w' ∧ Q e s') (next := wpAny P .any ops (fun e a' w' => ∃ s', Rel E s' a' w' ∧ Q e s') fuel (listed.setIfInBounds i true)) hΘ hr hdo hg (fun a' w' hr' => by
            refine ih _ p a' w' (by simpa using hsz) hun2 hp (fun j x hj => ?_) hcl2 (by rw [hpt]; exact hr')
            have hne : x ≠ i := fun e => hni j (by rw [hj, e])
            rw [getD_set_ne false (Ne.symm hne)]
            exact hwp j x hj)
          split
          · rename_i hw
            rw [if_pos hw] at hstep
            exact .inl hstep
          · rename_i hw
            rw [if_neg hw] at hstep
            exact hstep
        | w j =>
          simp only [Bool.and_eq_true, decide_eq_true_eq] at hkd'
          obtain ⟨hwj, hky⟩ := hkd'
          have hky' : ∀ j' x, wr[j']? = some x → j' < j → ancB ops.toList i x = true := fun j' x hj hlt => by
            have := List.all_eq_true.1 hky (x, j') (by rw [List.mem_zipIdx_iff_getElem?]; exact hj)
            simp only [Bool.or_eq_true, Bool.not_eq_true', decide_eq_false_iff_not] at this
            exact this.resolve_left fun h' => h' hlt
          have hjlt : j < wr.length := (List.getElem?_eq_some_iff.1 hwj).1
          have hpj : p = j := by
            have h1 : ¬ j < p := fun h => by
              have := (hwp j i hwj).2 h
              rw [h0f] at this; cases this
            rcases Nat.lt_or_ge p j with h | h
            · have hlt : p < wr.length := by omega
              have hw := List.getElem?_eq_getElem hlt
              have := (hwp p _ hw).1 (hanc _ (hky' p _ hw h))
              omega
            · omega
          subst hpj
          obtain ⟨hgn, hvo⟩ := he
          have hvo2 := vOp_congr (s := ⟨slAt sl (prs.take i), (ph p).1, (ph p).2⟩) (s' := ⟨slL sl prs listed, (ph p).1, (ph p).2⟩) (fun x hx => by
            cases x with
            | tmp t =>
              refine hsl listed i o hcl ho h0 hon' t ?_
              simp only [Oper.looksAt, List.mem_append, List.mem_filterMap]
              exact .inl ⟨.tmp t, by simpa using hx, rfl⟩
            | _ => rfl) rfl rfl hvo
          have hwant : Region.wanted o (yielded ops a.tmps) = true := by simp [Region.wanted, hgn]
          rw [if_pos hwant]
          refine .inl (op_step hΘ hr hdo hvo2 ?_)
          rintro v' o' nk' a' w' ⟨rfl, rfl, rfl⟩ hr'
          refine ih _ (p + 1) a' w' (by simpa using hsz) hun2 (by omega) (fun j x hj => ?_) hcl2 (by rw [hpt]; exact hr')
          by_cases hx : x = i
          · subst hx
            have hjp : j = p := by
              obtain ⟨h1a, h1b⟩ := List.getElem?_eq_some_iff.1 hj
              obtain ⟨h2a, h2b⟩ := List.getElem?_eq_some_iff.1 hwj
              rcases Nat.lt_trichotomy j p with hlt | heq | hgt
              · exact absurd (h1b.trans h2b.symm) ((List.pairwise_iff_getElem.1 hnd) j p h1a h2a hlt)
              · exact heq
              · exact absurd (h2b.trans h1b.symm) ((List.pairwise_iff_getElem.1 hnd) p j h2a h1a hgt)
            rw [hseti, hjp]
            simp
          · rw [getD_set_ne false (Ne.symm hx), hwp j x hj]
            have : j ≠ p := fun e => hx (by
              subst e
              rw [hwj] at hj
              exact (Option.some.inj hj).symm)
            omega
  refine main ops.size _ 0 a _ (by simp) ?_ (Nat.zero_le _) ?_ ?_ ?_
  · have : ∀ m, unl (Array.replicate ops.size false) m ≤ m := by
      intro m
      induction m with
      | zero => simp [unl]
      | succ m ih => simp only [unl]; split <;> omega
    exact this _
  · intro j i _
    simp only [Nat.not_lt_zero, iff_false]
    intro hl
    simp only [Array.getD_eq_getD_getElem?, Array.getElem?_replicate] at hl
    split at hl <;> simp at hl
  · intro j p hj hl
    simp only [Array.getD_eq_getD_getElem?, Array.getElem?_replicate] at hl
    split at hl <;> simp at hl
  · obtain ⟨S, γ, hr⟩ := hrel
    obtain ⟨m1, m2⟩ := hr.sto.more (w' := { w with drawn := w.drawn + 1 }) (fun _ => False) (fun _ h => h.elim) rfl rfl rfl (Nat.le_refl _) (fun _ _ => rfl)
    have hsl : slL sl prs (Array.replicate ops.size false) = sl := by
      funext u
      refine slL_miss fun j v _ hl => ?_
      simp only [Array.getD_eq_getD_getElem?, Array.getElem?_replicate] at hl
      split at hl <;> simp at hl
    rw [hsl]
    exact ⟨_, γ, m1, hr.tr.trans m2, fun u => (hr.sl u).tr hr.sto m2 (hr.slt u), hr.slt, hr.df, hr.nn⟩
end
end Go.Proofs.YtpkcbdhjnnnkbaaGreat.Abs
