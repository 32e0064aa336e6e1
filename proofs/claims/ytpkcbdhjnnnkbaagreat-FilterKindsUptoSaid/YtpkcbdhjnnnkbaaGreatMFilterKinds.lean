/- FilterKinds: called with any kinds and any entry that hold together at most 1048576 values and letters, the law answers true, and both read afterwards as they read before. -/
import Derived.Test.YtpkcbdhjnnnkbaaGreatMFilterKinds4
import Derived.Test.YtpkcbdhjnnnkbaaGreatMFilterKinds2
import Derived.Test.YtpkcbdhjnnnkbaaGreatRows
import Derived.WalkKit
import Derived.ProofKit
import Derived.OpenShut
import Derived.JoinedCond
import Derived.ChangeArms
import Derived.Carry
set_option linter.unusedVariables false
set_option linter.unusedSimpArgs false
set_option maxRecDepth 10000
namespace Go.Proofs.YtpkcbdhjnnnkbaaGreat.Abs
open Go
theorem may_split {e : Etr} {b : Bool} (h : fieldsV e.kind < 0 → b = true) : b = false → 1 ≤ e.kind ∧ e.kind ≤ 7 := fun hb => by
  have := fields_ok e.kind
  by_cases hf : fieldsV e.kind < 0
  · rw [h hf] at hb; cases hb
  · rw [decide_eq_false hf] at this
    simpa using this.symm

theorem fn45 : FnOk Tryz.prog 45 48 [2] (bodyOf Tryz.f45) := ⟨Tryz.f45, Tryz.func45, by kernel_rfl, by decide, by kernel_rfl, by kernel_rfl⟩
theorem s45 (e : Etr) (ok : OkE e) : PSpec Tryz.prog 45 [.d (encE e)] (.d (.bool (mayE e))) := by
  refine PSpec.of fn45 (by simp) fun o nk => ?_
  refine WP.seq fun K1 hK1 => ?_
  refine WP.reg tabOk rfl ?_
  refine u_step (g_box rfl fun o2 hb2 hk2 => ?_)
  refine u_step (o_assign rfl ?_)
  refine u_nil ?_
  refine hK1 _ ?_
  refine WP.seq fun K3 hK3 => ?_
  refine WP.reg tabOk rfl ?_
  refine u_step (o_fa_loc rfl th30 rfl rfl th3 (by decide) hb2 ?_)
  refine u_step (o_ld_loc rfl th3 rfl hb2 rfl ?_)
  refine u_step (o_pcall (s99 e.kind) rfl ?_)
  refine u_step (o_assign rfl ?_)
  refine u_nil ?_
  refine hK3 _ ?_
  refine WP.seq fun K4 hK4 => ?_
  refine WP.seq fun K5 hK5 => ?_
  refine WP.reg tabOk rfl ?_
  refine u_step (o_move rfl ?_)
  refine u_step (o_bin_int rfl rfl (by decide) rfl ?_)
  refine u_step (o_move rfl ?_)
  apply u_guard
  · exact GC.f _
  · intro hg
    refine o_fa_loc rfl th30 rfl rfl th3 (by decide) hb2 ⟨rfl, rfl, rfl⟩
  apply u_guard
  · exact GC.f _
  · intro hg; try simp only [hg, cnd_true]; try simp only [hg, cnd_true, Bool.true_and]
    refine o_ld_loc rfl th3 rfl hb2 rfl ⟨rfl, rfl, rfl⟩
  apply u_guard
  · exact GC.f _
  · intro hg; try simp only [hg, cnd_true]; try simp only [hg, cnd_true, Bool.true_and]
    refine o_pcall (s100 e.term _) rfl ⟨rfl, rfl, rfl⟩
  apply u_guard
  · exact GC.f _
  · intro hg; try simp only [hg, cnd_true]; try simp only [hg, cnd_true, Bool.true_and]
    refine o_not rfl ⟨rfl, rfl, rfl⟩
  refine u_step (o_pick_or rfl rfl rfl ?_)
  refine u_step (o_move rfl ?_)
  apply u_guard
  · exact GC.f _
  · intro hg
    refine o_fa_loc rfl th30 rfl rfl th3 (by decide) hb2 ⟨rfl, rfl, rfl⟩
  apply u_guard
  · exact GC.f _
  · intro hg; try simp only [hg, cnd_true]; try simp only [hg, cnd_true, Bool.true_and]
    refine o_ld_loc rfl th3 rfl hb2 rfl ⟨rfl, rfl, rfl⟩
  apply u_guard
  · exact GC.f _
  · intro hg; try simp only [hg, cnd_true]; try simp only [hg, cnd_true, Bool.true_and]
    refine o_pcall (s100 e.session _) rfl ⟨rfl, rfl, rfl⟩
  apply u_guard
  · exact GC.f _
  · intro hg; try simp only [hg, cnd_true]; try simp only [hg, cnd_true, Bool.true_and]
    refine o_not rfl ⟨rfl, rfl, rfl⟩
  refine u_step (o_pick_or rfl rfl rfl ?_)
  refine u_step (o_move rfl ?_)
  apply u_guard
  · exact GC.f _
  · intro hg
    refine o_fa_loc rfl th30 rfl rfl th3 (by decide) hb2 ⟨rfl, rfl, rfl⟩
  apply u_guard
  · exact GC.f _
  · intro hg; try simp only [hg, cnd_true]; try simp only [hg, cnd_true, Bool.true_and]
    refine o_ld_loc rfl th3 rfl hb2 rfl ⟨rfl, rfl, rfl⟩
  apply u_guard
  · exact GC.f _
  · intro hg; try simp only [hg, cnd_true]; try simp only [hg, cnd_true, Bool.true_and]
    refine o_pcall (s100 e.number _) rfl ⟨rfl, rfl, rfl⟩
  apply u_guard
  · exact GC.f _
  · intro hg; try simp only [hg, cnd_true]; try simp only [hg, cnd_true, Bool.true_and]
    refine o_not rfl ⟨rfl, rfl, rfl⟩
  refine u_step (o_pick_or rfl rfl rfl ?_)
  refine u_nil ?_
  refine hK5 _ ?_
  refine WP.cond rfl (fun hc6 => ?_) (fun hc6 => ?_)
  ·
    try simp only [Q0, Q1, Q2, Q3, Q4, Q5, Q6, Q7, Q8, ge_iff_le, gt_iff_lt] at hc6
    refine WP.seq fun K7 hK7 => ?_
    refine WP.reg tabOk rfl ?_
    refine u_step (o_assign rfl ?_)
    refine u_nil ?_
    refine hK7 _ ?_
    refine WP.ret ?_
    refine ret_ok rfl ?_ (by omega) (fun t ht => (hk2 t (by omega)))
    -- ret 1
    clear hK1 hK3 hK4 hK5 hK7
    refine congrArg D.bool ?_
    have hfk := fields_ok e.kind
    simp only [decide_eq_true_eq, decide_eq_false_iff_not, mayE] at *
    grind
  ·
    try simp only [Q0, Q1, Q2, Q3, Q4, Q5, Q6, Q7, Q8, ge_iff_le, gt_iff_lt] at hc6
    have hk := may_split (e := e) (b := _) (fun hf => by simp [hf]) hc6
    refine WP.skip ?_
    refine hK4 _ ?_
    refine WP.seq fun K8 hK8 => ?_
    refine WP.seq fun K9 hK9 => ?_
    refine WP.reg tabOk rfl ?_
    refine u_step (o_fa_loc rfl th30 rfl rfl th3 (by decide) hb2 ?_)
    refine u_step (o_ld_loc rfl th3 rfl hb2 rfl ?_)
    refine u_step (o_bin_int rfl rfl (by decide) rfl ?_)
    refine u_step (o_move rfl ?_)
    apply u_guard
    · exact GC.t _
    · intro hg
      refine o_fa_loc rfl th30 rfl rfl th3 (by decide) hb2 ⟨rfl, rfl, rfl⟩
    apply u_guard
    · exact GC.t _
    · intro hg; try simp only [hg, cnd_true]; try simp only [hg, cnd_true, Bool.true_and]
      refine o_ld_loc rfl th3 rfl hb2 rfl ⟨rfl, rfl, rfl⟩
    apply u_guard
    · exact GC.t _
    · intro hg; try simp only [hg, cnd_true]; try simp only [hg, cnd_true, Bool.true_and]
      refine o_bin_int rfl rfl (by decide) rfl ⟨rfl, rfl, rfl⟩
    apply u_guard
    · exact GC.t _
    · intro hg; try simp only [hg, cnd_true]; try simp only [hg, cnd_true, Bool.true_and]
      refine o_move rfl ⟨rfl, rfl, rfl⟩
    apply u_guard
    · exact GC.cf _ _
    · intro hg
      refine o_fa_loc rfl th30 rfl rfl th3 (by decide) hb2 ⟨rfl, rfl, rfl⟩
    apply u_guard
    · exact GC.cf _ _
    · intro hg; try simp only [hg, cnd_true]; try simp only [hg, cnd_true, Bool.true_and]
      refine o_ld_loc rfl th3 rfl hb2 rfl ⟨rfl, rfl, rfl⟩
    apply u_guard
    · exact GC.cf _ _
    · intro hg; try simp only [hg, cnd_true]; try simp only [hg, cnd_true, Bool.true_and]
      refine o_bin_int rfl rfl (by decide) rfl ⟨rfl, rfl, rfl⟩
    apply u_guard
    · exact GC.t _
    · intro hg; try simp only [hg, cnd_true]; try simp only [hg, cnd_true, Bool.true_and]
      refine o_pick_or rfl rfl rfl ⟨rfl, rfl, rfl⟩
    refine u_step (o_pick_and rfl rfl rfl ?_)
    refine u_nil ?_
    refine hK9 _ ?_
    refine WP.cond rfl (fun hc10 => ?_) (fun hc10 => ?_)
    ·
      try simp only [Q0, Q1, Q2, Q3, Q4, Q5, Q6, Q7, Q8, ge_iff_le, gt_iff_lt] at hc10
      refine WP.seq fun K11 hK11 => ?_
      refine WP.reg tabOk rfl ?_
      refine u_step (o_assign rfl ?_)
      refine u_nil ?_
      refine hK11 _ ?_
      refine WP.ret ?_
      refine ret_ok rfl ?_ (by omega) (fun t ht => (hk2 t (by omega)))
      -- ret 2
      clear hK1 hK3 hK4 hK5 hK8 hK9 hK11
      refine congrArg D.bool ?_
      have hfk := fields_ok e.kind
      simp only [decide_eq_true_eq, decide_eq_false_iff_not, mayE] at *
      grind
    ·
      try simp only [Q0, Q1, Q2, Q3, Q4, Q5, Q6, Q7, Q8, ge_iff_le, gt_iff_lt] at hc10
      refine WP.skip ?_
      refine hK8 _ ?_
      refine WP.seq fun K12 hK12 => ?_
      refine WP.reg tabOk rfl ?_
      refine u_step (o_ld_agg rfl th30 rfl hb2 rfl rfl rfl ?_)
      refine u_step (o_move rfl ?_)
      refine u_step (o_pcall (s101 e hk) rfl ?_)
      refine u_step (o_move rfl ?_)
      apply u_guard
      · exact GC.t _
      · intro hg
        refine o_ld_agg rfl th30 rfl hb2 rfl rfl rfl ⟨rfl, rfl, rfl⟩
      apply u_guard
      · exact GC.t _
      · intro hg
        refine o_move rfl ⟨rfl, rfl, rfl⟩
      apply u_guard
      · exact GC.t _
      · intro hg; try simp only [hg, cnd_true]; try simp only [hg, cnd_true, Bool.true_and]
        refine o_pcall (s102 e hk ok) rfl ⟨rfl, rfl, rfl⟩
      refine u_step (o_pick_and rfl rfl rfl ?_)
      refine u_step (o_assign rfl ?_)
      refine u_nil ?_
      refine hK12 _ ?_
      refine WP.ret ?_
      refine ret_ok rfl ?_ (by omega) (fun t ht => (hk2 t (by omega)))
      -- ret 3
      clear hK1 hK3 hK4 hK5 hK8 hK9 hK12
      refine congrArg D.bool ?_
      have hfk := fields_ok e.kind
      simp only [decide_eq_true_eq, decide_eq_false_iff_not, mayE] at *
      grind

theorem fn24 : FnOk Tryz.prog 24 160 [2] (bodyOf Tryz.f24) := ⟨Tryz.f24, Tryz.func24, by kernel_rfl, by decide, by kernel_rfl, by kernel_rfl⟩
theorem s24 (e : Etr) (ok : OkE e) : PSpec Tryz.prog 24 [.d (encE e)] (.d (.bool (mayE e))) := by
  refine PSpec.of fn24 (by simp) fun o nk => ?_
  refine WP.seq fun K1 hK1 => ?_
  refine WP.reg tabOk rfl ?_
  refine u_step (g_box rfl fun o2 hb2 hk2 => ?_)
  refine u_step (o_assign rfl ?_)
  refine u_nil ?_
  refine hK1 _ ?_
  refine WP.seq fun K3 hK3 => ?_
  refine WP.seq fun K4 hK4 => ?_
  refine WP.reg tabOk rfl ?_
  refine u_step (o_fa_loc rfl th30 rfl rfl th3 (by decide) hb2 ?_)
  refine u_step (o_ld_loc rfl th3 rfl hb2 rfl ?_)
  refine u_step (o_bin_int rfl rfl (by decide) rfl ?_)
  refine u_step (o_move rfl ?_)
  apply u_guard
  · exact GC.f _
  · intro hg
    refine o_fa_loc rfl th30 rfl rfl th3 (by decide) hb2 ⟨rfl, rfl, rfl⟩
  apply u_guard
  · exact GC.f _
  · intro hg; try simp only [hg, cnd_true]; try simp only [hg, cnd_true, Bool.true_and]
    refine o_ld_loc rfl th3 rfl hb2 rfl ⟨rfl, rfl, rfl⟩
  apply u_guard
  · exact GC.f _
  · intro hg; try simp only [hg, cnd_true]; try simp only [hg, cnd_true, Bool.true_and]
    refine o_bin_int rfl rfl (by decide) rfl ⟨rfl, rfl, rfl⟩
  refine u_step (o_pick_or rfl rfl rfl ?_)
  refine u_step (o_move rfl ?_)
  apply u_guard
  · exact GC.f _
  · intro hg
    refine o_fa_loc rfl th30 rfl rfl th3 (by decide) hb2 ⟨rfl, rfl, rfl⟩
  apply u_guard
  · exact GC.f _
  · intro hg; try simp only [hg, cnd_true]; try simp only [hg, cnd_true, Bool.true_and]
    refine o_ld_loc rfl th3 rfl hb2 rfl ⟨rfl, rfl, rfl⟩
  apply u_guard
  · exact GC.f _
  · intro hg; try simp only [hg, cnd_true]; try simp only [hg, cnd_true, Bool.true_and]
    refine o_bin_int rfl rfl (by decide) rfl ⟨rfl, rfl, rfl⟩
  refine u_step (o_pick_or rfl rfl rfl ?_)
  refine u_step (o_move rfl ?_)
  apply u_guard
  · exact GC.f _
  · intro hg
    refine o_fa_loc rfl th30 rfl rfl th3 (by decide) hb2 ⟨rfl, rfl, rfl⟩
  apply u_guard
  · exact GC.f _
  · intro hg; try simp only [hg, cnd_true]; try simp only [hg, cnd_true, Bool.true_and]
    refine o_ld_loc rfl th3 rfl hb2 rfl ⟨rfl, rfl, rfl⟩
  apply u_guard
  · exact GC.f _
  · intro hg; try simp only [hg, cnd_true]; try simp only [hg, cnd_true, Bool.true_and]
    refine o_bin_int rfl rfl (by decide) rfl ⟨rfl, rfl, rfl⟩
  refine u_step (o_pick_or rfl rfl rfl ?_)
  refine u_step (o_move rfl ?_)
  apply u_guard
  · exact GC.f _
  · intro hg
    refine o_fa_loc rfl th30 rfl rfl th3 (by decide) hb2 ⟨rfl, rfl, rfl⟩
  apply u_guard
  · exact GC.f _
  · intro hg; try simp only [hg, cnd_true]; try simp only [hg, cnd_true, Bool.true_and]
    refine o_ld_loc rfl th3 rfl hb2 rfl ⟨rfl, rfl, rfl⟩
  apply u_guard
  · exact GC.f _
  · intro hg; try simp only [hg, cnd_true]; try simp only [hg, cnd_true, Bool.true_and]
    refine o_bin_int rfl rfl (by decide) rfl ⟨rfl, rfl, rfl⟩
  refine u_step (o_pick_or rfl rfl rfl ?_)
  refine u_step (o_move rfl ?_)
  apply u_guard
  · exact GC.f _
  · intro hg
    refine o_fa_loc rfl th30 rfl rfl th3 (by decide) hb2 ⟨rfl, rfl, rfl⟩
  apply u_guard
  · exact GC.f _
  · intro hg; try simp only [hg, cnd_true]; try simp only [hg, cnd_true, Bool.true_and]
    refine o_ld_loc rfl th3 rfl hb2 rfl ⟨rfl, rfl, rfl⟩
  apply u_guard
  · exact GC.f _
  · intro hg; try simp only [hg, cnd_true]; try simp only [hg, cnd_true, Bool.true_and]
    refine o_bin_int rfl rfl (by decide) rfl ⟨rfl, rfl, rfl⟩
  refine u_step (o_pick_or rfl rfl rfl ?_)
  refine u_step (o_move rfl ?_)
  apply u_guard
  · exact GC.f _
  · intro hg
    refine o_fa_loc rfl th30 rfl rfl th3 (by decide) hb2 ⟨rfl, rfl, rfl⟩
  apply u_guard
  · exact GC.f _
  · intro hg; try simp only [hg, cnd_true]; try simp only [hg, cnd_true, Bool.true_and]
    refine o_ld_loc rfl th3 rfl hb2 rfl ⟨rfl, rfl, rfl⟩
  apply u_guard
  · exact GC.f _
  · intro hg; try simp only [hg, cnd_true]; try simp only [hg, cnd_true, Bool.true_and]
    refine o_bin_int rfl rfl (by decide) rfl ⟨rfl, rfl, rfl⟩
  refine u_step (o_pick_or rfl rfl rfl ?_)
  refine u_step (o_move rfl ?_)
  apply u_guard
  · exact GC.f _
  · intro hg
    refine o_fa_loc rfl th30 rfl rfl th3 (by decide) hb2 ⟨rfl, rfl, rfl⟩
  apply u_guard
  · exact GC.f _
  · intro hg; try simp only [hg, cnd_true]; try simp only [hg, cnd_true, Bool.true_and]
    refine o_ld_loc rfl th3 rfl hb2 rfl ⟨rfl, rfl, rfl⟩
  apply u_guard
  · exact GC.f _
  · intro hg; try simp only [hg, cnd_true]; try simp only [hg, cnd_true, Bool.true_and]
    refine o_bin_int rfl rfl (by decide) rfl ⟨rfl, rfl, rfl⟩
  refine u_step (o_pick_or rfl rfl rfl ?_)
  refine u_nil ?_
  refine hK4 _ ?_
  refine WP.cond rfl (fun hc5 => ?_) (fun hc5 => ?_)
  ·
    try simp only [Q0, Q1, Q2, Q3, Q4, Q5, Q6, Q7, Q8, ge_iff_le, gt_iff_lt] at hc5
    refine WP.seq fun K6 hK6 => ?_
    refine WP.reg tabOk rfl ?_
    refine u_step (o_assign rfl ?_)
    refine u_nil ?_
    refine hK6 _ ?_
    refine WP.ret ?_
    refine ret_ok rfl ?_ (by omega) (fun t ht => (hk2 t (by omega)))
    -- ret 1
    clear hK1 hK3 hK4 hK6
    refine congrArg D.bool ?_
    have hcn := coll_nil
    have hdi := @d_imp_i e.kind
    have hl0 : e.deltas.length = 0 ↔ e.deltas = [] := List.length_eq_zero_iff
    simp only [mayE, namesE, valuesE, List.length_map] at *
    grind
  ·
    try simp only [Q0, Q1, Q2, Q3, Q4, Q5, Q6, Q7, Q8, ge_iff_le, gt_iff_lt] at hc5
    refine WP.skip ?_
    refine hK3 _ ?_
    refine WP.seq fun K7 hK7 => ?_
    refine WP.reg tabOk rfl ?_
    refine u_step (o_fa_loc rfl th30 rfl rfl th3 (by decide) hb2 ?_)
    refine u_step (o_ld_loc rfl th3 rfl hb2 rfl ?_)
    refine u_step (o_pcall (s64b e.kind) rfl ?_)
    refine u_step (o_moveV (v := .tup _) rfl ?_)
    refine u_step (o_ext rfl rfl ?_)
    refine u_step (o_ext rfl rfl ?_)
    refine u_step (o_ext rfl rfl ?_)
    refine u_step (o_ext rfl rfl ?_)
    refine u_step (o_ext rfl rfl ?_)
    refine u_step (o_assign rfl ?_)
    refine u_step (o_assign rfl ?_)
    refine u_step (o_assign rfl ?_)
    refine u_step (o_assign rfl ?_)
    refine u_step (o_assign rfl ?_)
    refine u_nil ?_
    refine hK7 _ ?_
    refine WP.seq fun K8 hK8 => ?_
    refine WP.seq fun K9 hK9 => ?_
    refine WP.reg tabOk rfl ?_
    refine u_step (o_move rfl ?_)
    refine u_step (o_fa_loc rfl th30 rfl rfl th9 (by decide) hb2 ?_)
    refine u_step (o_ld_loc rfl th9 rfl hb2 rfl ?_)
    refine u_step (o_bin_str rfl (show _ = SV.d (.str []) from rfl) rfl ?_)
    refine u_step (o_bin_neb rfl rfl th4 rfl ?_)
    refine u_step (o_move rfl ?_)
    apply u_guard
    · exact GC.f _
    · intro hg
      refine o_move rfl ⟨rfl, rfl, rfl⟩
    apply u_guard
    · exact GC.f _
    · intro hg; try simp only [hg, cnd_true]; try simp only [hg, cnd_true, Bool.true_and]
      refine o_move rfl ⟨rfl, rfl, rfl⟩
    apply u_guard
    · exact GC.ct _ _
    · intro hg
      refine o_fa_loc rfl th30 rfl rfl th9 (by decide) hb2 ⟨rfl, rfl, rfl⟩
    apply u_guard
    · exact GC.ct _ _
    · intro hg; try simp only [hg, cnd_true]; try simp only [hg, cnd_true, Bool.true_and]
      refine o_ld_loc rfl th9 rfl hb2 rfl ⟨rfl, rfl, rfl⟩
    apply u_guard
    · exact GC.ct _ _
    · intro hg; try simp only [hg, cnd_true]; try simp only [hg, cnd_true, Bool.true_and]
      refine o_pcall (s49 e.coll) rfl ⟨rfl, rfl, rfl⟩
    apply u_guard
    · exact GC.ct _ _
    · intro hg; try simp only [hg, cnd_true]; try simp only [hg, cnd_true, Bool.true_and]
      refine o_not rfl ⟨rfl, rfl, rfl⟩
    apply u_guard
    · exact GC.f _
    · intro hg; try simp only [hg, cnd_true]; try simp only [hg, cnd_true, Bool.true_and]
      refine o_pick_and rfl rfl rfl ⟨rfl, rfl, rfl⟩
    refine u_step (o_pick_or rfl rfl rfl ?_)
    refine u_step (o_move rfl ?_)
    apply u_guard
    · exact GC.f _
    · intro hg
      refine o_move rfl ⟨rfl, rfl, rfl⟩
    apply u_guard
    · exact GC.f _
    · intro hg
      refine o_fa_loc rfl th30 rfl rfl th9 (by decide) hb2 ⟨rfl, rfl, rfl⟩
    apply u_guard
    · exact GC.f _
    · intro hg; try simp only [hg, cnd_true]; try simp only [hg, cnd_true, Bool.true_and]
      refine o_ld_loc rfl th9 rfl hb2 rfl ⟨rfl, rfl, rfl⟩
    apply u_guard
    · exact GC.f _
    · intro hg; try simp only [hg, cnd_true]; try simp only [hg, cnd_true, Bool.true_and]
      refine o_bin_str rfl (show _ = SV.d (.str []) from rfl) rfl ⟨rfl, rfl, rfl⟩
    apply u_guard
    · exact GC.f _
    · intro hg; try simp only [hg, cnd_true]; try simp only [hg, cnd_true, Bool.true_and]
      refine o_bin_neb rfl rfl th4 rfl ⟨rfl, rfl, rfl⟩
    refine u_step (o_pick_or rfl rfl rfl ?_)
    refine u_step (o_move rfl ?_)
    apply u_guard
    · exact GC.f _
    · intro hg
      refine o_move rfl ⟨rfl, rfl, rfl⟩
    apply u_guard
    · exact GC.f _
    · intro hg; try simp only [hg, cnd_true]; try simp only [hg, cnd_true, Bool.true_and]
      refine o_move rfl ⟨rfl, rfl, rfl⟩
    apply u_guard
    · exact GC.ct _ _
    · intro hg
      refine o_fa_loc rfl th30 rfl rfl th9 (by decide) hb2 ⟨rfl, rfl, rfl⟩
    apply u_guard
    · exact GC.ct _ _
    · intro hg; try simp only [hg, cnd_true]; try simp only [hg, cnd_true, Bool.true_and]
      refine o_ld_loc rfl th9 rfl hb2 rfl ⟨rfl, rfl, rfl⟩
    apply u_guard
    · exact GC.ct _ _
    · intro hg; try simp only [hg, cnd_true]; try simp only [hg, cnd_true, Bool.true_and]
      refine o_pcall (s49 e.to) rfl ⟨rfl, rfl, rfl⟩
    apply u_guard
    · exact GC.ct _ _
    · intro hg; try simp only [hg, cnd_true]; try simp only [hg, cnd_true, Bool.true_and]
      refine o_not rfl ⟨rfl, rfl, rfl⟩
    apply u_guard
    · exact GC.ct _ _
    · intro hg; try simp only [hg, cnd_true]; try simp only [hg, cnd_true, Bool.true_and]
      refine o_move rfl ⟨rfl, rfl, rfl⟩
    apply u_guard
    · exact GC.cf _ _
    · intro hg
      refine o_fa_loc rfl th30 rfl rfl th9 (by decide) hb2 ⟨rfl, rfl, rfl⟩
    apply u_guard
    · exact GC.cf _ _
    · intro hg; try simp only [hg, cnd_true]; try simp only [hg, cnd_true, Bool.true_and]
      refine o_ld_loc rfl th9 rfl hb2 rfl ⟨rfl, rfl, rfl⟩
    apply u_guard
    · exact GC.cf _ _
    · intro hg
      refine o_fa_loc rfl th30 rfl rfl th9 (by decide) hb2 ⟨rfl, rfl, rfl⟩
    apply u_guard
    · exact GC.cf _ _
    · intro hg; try simp only [hg, cnd_true]; try simp only [hg, cnd_true, Bool.true_and]
      refine o_ld_loc rfl th9 rfl hb2 rfl ⟨rfl, rfl, rfl⟩
    apply u_guard
    · exact GC.cf _ _
    · intro hg; try simp only [hg, cnd_true]; try simp only [hg, cnd_true, Bool.true_and]
      refine o_bin_str rfl rfl rfl ⟨rfl, rfl, rfl⟩
    apply u_guard
    · exact GC.ct _ _
    · intro hg; try simp only [hg, cnd_true]; try simp only [hg, cnd_true, Bool.true_and]
      refine o_pick_or rfl rfl rfl ⟨rfl, rfl, rfl⟩
    apply u_guard
    · exact GC.f _
    · intro hg; try simp only [hg, cnd_true]; try simp only [hg, cnd_true, Bool.true_and]
      refine o_pick_and rfl rfl rfl ⟨rfl, rfl, rfl⟩
    refine u_step (o_pick_or rfl rfl rfl ?_)
    refine u_nil ?_
    refine hK9 _ ?_
    refine WP.cond rfl (fun hc10 => ?_) (fun hc10 => ?_)
    ·
      try simp only [Q0, Q1, Q2, Q3, Q4, Q5, Q6, Q7, Q8, ge_iff_le, gt_iff_lt] at hc10
      refine WP.seq fun K11 hK11 => ?_
      refine WP.reg tabOk rfl ?_
      refine u_step (o_assign rfl ?_)
      refine u_nil ?_
      refine hK11 _ ?_
      refine WP.ret ?_
      refine ret_ok rfl ?_ (by omega) (fun t ht => (hk2 t (by omega)))
      -- ret 2
      clear hK1 hK3 hK4 hK7 hK8 hK9 hK11
      refine congrArg D.bool ?_
      have hcn := coll_nil
      have hdi := @d_imp_i e.kind
      have hl0 : e.deltas.length = 0 ↔ e.deltas = [] := List.length_eq_zero_iff
      simp only [mayE, namesE, valuesE, List.length_map] at *
      grind
    ·
      try simp only [Q0, Q1, Q2, Q3, Q4, Q5, Q6, Q7, Q8, ge_iff_le, gt_iff_lt] at hc10
      refine WP.skip ?_
      refine hK8 _ ?_
      refine WP.seq fun K12 hK12 => ?_
      refine WP.seq fun K13 hK13 => ?_
      refine WP.reg tabOk rfl ?_
      refine u_step (o_move rfl ?_)
      refine u_step (o_not rfl ?_)
      refine u_step (o_move rfl ?_)
      apply u_guard
      · exact GC.t _
      · intro hg
        refine o_fa_loc rfl th30 rfl rfl th27 (by decide) hb2 ⟨rfl, rfl, rfl⟩
      apply u_guard
      · exact GC.t _
      · intro hg; try simp only [hg, cnd_true]; try simp only [hg, cnd_true, Bool.true_and]
        refine o_ld_agg rfl th27 rfl hb2 rfl rfl rfl ⟨rfl, rfl, rfl⟩
      apply u_guard
      · exact GC.t _
      · intro hg; try simp only [hg, cnd_true]; try simp only [hg, cnd_true, Bool.true_and]
        refine o_pcall (pv (v := e.id) (s65 e.id)) rfl ⟨rfl, rfl, rfl⟩
      apply u_guard
      · exact GC.t _
      · intro hg; try simp only [hg, cnd_true]; try simp only [hg, cnd_true, Bool.true_and]
        refine o_not rfl ⟨rfl, rfl, rfl⟩
      refine u_step (o_pick_and rfl rfl rfl ?_)
      refine u_step (o_move rfl ?_)
      apply u_guard
      · exact GC.f _
      · intro hg
        refine o_move rfl ⟨rfl, rfl, rfl⟩
      apply u_guard
      · exact GC.f _
      · intro hg; try simp only [hg, cnd_true]; try simp only [hg, cnd_true, Bool.true_and]
        refine o_move rfl ⟨rfl, rfl, rfl⟩
      apply u_guard
      · exact GC.ct _ _
      · intro hg
        refine o_fa_loc rfl th30 rfl rfl th27 (by decide) hb2 ⟨rfl, rfl, rfl⟩
      apply u_guard
      · exact GC.ct _ _
      · intro hg; try simp only [hg, cnd_true]; try simp only [hg, cnd_true, Bool.true_and]
        refine o_ld_agg rfl th27 rfl hb2 rfl rfl rfl ⟨rfl, rfl, rfl⟩
      apply u_guard
      · exact GC.ct _ _
      · intro hg; try simp only [hg, cnd_true]; try simp only [hg, cnd_true, Bool.true_and]
        refine o_pcall (pv (v := e.id) (s66 e.id ok.ri ok.si)) rfl ⟨rfl, rfl, rfl⟩
      apply u_guard
      · exact GC.ct _ _
      · intro hg; try simp only [hg, cnd_true]; try simp only [hg, cnd_true, Bool.true_and]
        refine o_bin_int rfl rfl (by decide) rfl ⟨rfl, rfl, rfl⟩
      apply u_guard
      · exact GC.f _
      · intro hg; try simp only [hg, cnd_true]; try simp only [hg, cnd_true, Bool.true_and]
        refine o_pick_and rfl rfl rfl ⟨rfl, rfl, rfl⟩
      refine u_step (o_pick_or rfl rfl rfl ?_)
      refine u_nil ?_
      refine hK13 _ ?_
      refine WP.cond rfl (fun hc14 => ?_) (fun hc14 => ?_)
      ·
        try simp only [Q0, Q1, Q2, Q3, Q4, Q5, Q6, Q7, Q8, ge_iff_le, gt_iff_lt] at hc14
        refine WP.seq fun K15 hK15 => ?_
        refine WP.reg tabOk rfl ?_
        refine u_step (o_assign rfl ?_)
        refine u_nil ?_
        refine hK15 _ ?_
        refine WP.ret ?_
        refine ret_ok rfl ?_ (by omega) (fun t ht => (hk2 t (by omega)))
        -- ret 3
        clear hK1 hK3 hK4 hK7 hK8 hK9 hK12 hK13 hK15
        refine congrArg D.bool ?_
        have hcn := coll_nil
        have hdi := @d_imp_i e.kind
        have hl0 : e.deltas.length = 0 ↔ e.deltas = [] := List.length_eq_zero_iff
        simp only [mayE, namesE, valuesE, List.length_map] at *
        grind
      ·
        try simp only [Q0, Q1, Q2, Q3, Q4, Q5, Q6, Q7, Q8, ge_iff_le, gt_iff_lt] at hc14
        refine WP.skip ?_
        refine hK12 _ ?_
        refine WP.seq fun K16 hK16 => ?_
        refine WP.seq fun K17 hK17 => ?_
        refine WP.reg tabOk rfl ?_
        refine u_step (o_move rfl ?_)
        refine u_step (o_not rfl ?_)
        refine u_step (o_move rfl ?_)
        apply u_guard
        · exact GC.t _
        · intro hg
          refine o_fa_loc rfl th30 rfl rfl th27 (by decide) hb2 ⟨rfl, rfl, rfl⟩
        apply u_guard
        · exact GC.t _
        · intro hg; try simp only [hg, cnd_true]; try simp only [hg, cnd_true, Bool.true_and]
          refine o_ld_agg rfl th27 rfl hb2 rfl rfl rfl ⟨rfl, rfl, rfl⟩
        apply u_guard
        · exact GC.t _
        · intro hg; try simp only [hg, cnd_true]; try simp only [hg, cnd_true, Bool.true_and]
          refine o_pcall (pv (v := e.doc) (s65 e.doc)) rfl ⟨rfl, rfl, rfl⟩
        apply u_guard
        · exact GC.t _
        · intro hg; try simp only [hg, cnd_true]; try simp only [hg, cnd_true, Bool.true_and]
          refine o_not rfl ⟨rfl, rfl, rfl⟩
        refine u_step (o_pick_and rfl rfl rfl ?_)
        refine u_step (o_move rfl ?_)
        apply u_guard
        · exact GC.f _
        · intro hg
          refine o_move rfl ⟨rfl, rfl, rfl⟩
        apply u_guard
        · exact GC.f _
        · intro hg; try simp only [hg, cnd_true]; try simp only [hg, cnd_true, Bool.true_and]
          refine o_move rfl ⟨rfl, rfl, rfl⟩
        apply u_guard
        · exact GC.ct _ _
        · intro hg
          refine o_fa_loc rfl th30 rfl rfl th27 (by decide) hb2 ⟨rfl, rfl, rfl⟩
        apply u_guard
        · exact GC.ct _ _
        · intro hg; try simp only [hg, cnd_true]; try simp only [hg, cnd_true, Bool.true_and]
          refine o_ld_agg rfl th27 rfl hb2 rfl rfl rfl ⟨rfl, rfl, rfl⟩
        apply u_guard
        · exact GC.ct _ _
        · intro hg
          refine o_fa_loc rfl th30 rfl rfl th27 (by decide) hb2 ⟨rfl, rfl, rfl⟩
        apply u_guard
        · exact GC.ct _ _
        · intro hg; try simp only [hg, cnd_true]; try simp only [hg, cnd_true, Bool.true_and]
          refine o_ld_agg rfl th27 rfl hb2 rfl rfl rfl ⟨rfl, rfl, rfl⟩
        apply u_guard
        · exact GC.ct _ _
        · intro hg; try simp only [hg, cnd_true]; try simp only [hg, cnd_true, Bool.true_and]
          refine o_pcall (pvE (v := e.doc) (w := e.id) (s67 e.doc e.id ok.rd ok.sd)) rfl ⟨rfl, rfl, rfl⟩
        apply u_guard
        · exact GC.ct _ _
        · intro hg; try simp only [hg, cnd_true]; try simp only [hg, cnd_true, Bool.true_and]
          refine o_not rfl ⟨rfl, rfl, rfl⟩
        apply u_guard
        · exact GC.f _
        · intro hg; try simp only [hg, cnd_true]; try simp only [hg, cnd_true, Bool.true_and]
          refine o_pick_and rfl rfl rfl ⟨rfl, rfl, rfl⟩
        refine u_step (o_pick_or rfl rfl rfl ?_)
        refine u_step (o_move rfl ?_)
        apply u_guard
        · exact GC.f _
        · intro hg
          refine o_move rfl ⟨rfl, rfl, rfl⟩
        apply u_guard
        · exact GC.f _
        · intro hg; try simp only [hg, cnd_true]; try simp only [hg, cnd_true, Bool.true_and]
          refine o_not rfl ⟨rfl, rfl, rfl⟩
        apply u_guard
        · exact GC.f _
        · intro hg; try simp only [hg, cnd_true]; try simp only [hg, cnd_true, Bool.true_and]
          refine o_move rfl ⟨rfl, rfl, rfl⟩
        apply u_guard
        · exact GC.ct _ _
        · intro hg
          refine o_fa_loc rfl th30 rfl rfl th28 (by decide) hb2 ⟨rfl, rfl, rfl⟩
        apply u_guard
        · exact GC.ct _ _
        · intro hg; try simp only [hg, cnd_true]; try simp only [hg, cnd_true, Bool.true_and]
          refine o_ld_loc rfl th28 rfl hb2 rfl ⟨rfl, rfl, rfl⟩
        apply u_guard
        · exact GC.ct _ _
        · intro hg; try simp only [hg, cnd_true]; try simp only [hg, cnd_true, Bool.true_and]
          refine o_len_sl rfl th28 rfl ⟨rfl, rfl, rfl⟩
        apply u_guard
        · exact GC.ct _ _
        · intro hg; try simp only [hg, cnd_true]; try simp only [hg, cnd_true, Bool.true_and]
          refine o_bin_int rfl rfl (by decide) rfl ⟨rfl, rfl, rfl⟩
        apply u_guard
        · exact GC.f _
        · intro hg; try simp only [hg, cnd_true]; try simp only [hg, cnd_true, Bool.true_and]
          refine o_pick_and rfl rfl rfl ⟨rfl, rfl, rfl⟩
        refine u_step (o_pick_or rfl rfl rfl ?_)
        refine u_step (o_move rfl ?_)
        apply u_guard
        · exact GC.f _
        · intro hg
          refine o_move rfl ⟨rfl, rfl, rfl⟩
        apply u_guard
        · exact GC.f _
        · intro hg; try simp only [hg, cnd_true]; try simp only [hg, cnd_true, Bool.true_and]
          refine o_move rfl ⟨rfl, rfl, rfl⟩
        apply u_guard
        · exact GC.ct _ _
        · intro hg
          refine o_fa_loc rfl th30 rfl rfl th28 (by decide) hb2 ⟨rfl, rfl, rfl⟩
        apply u_guard
        · exact GC.ct _ _
        · intro hg; try simp only [hg, cnd_true]; try simp only [hg, cnd_true, Bool.true_and]
          refine o_ld_loc rfl th28 rfl hb2 rfl ⟨rfl, rfl, rfl⟩
        apply u_guard
        · exact GC.ct _ _
        · intro hg; try simp only [hg, cnd_true]; try simp only [hg, cnd_true, Bool.true_and]
          refine o_pcall (s68 e.deltas ok.ds) rfl ⟨rfl, rfl, rfl⟩
        apply u_guard
        · exact GC.ct _ _
        · intro hg; try simp only [hg, cnd_true]; try simp only [hg, cnd_true, Bool.true_and]
          refine o_not rfl ⟨rfl, rfl, rfl⟩
        apply u_guard
        · exact GC.f _
        · intro hg; try simp only [hg, cnd_true]; try simp only [hg, cnd_true, Bool.true_and]
          refine o_pick_and rfl rfl rfl ⟨rfl, rfl, rfl⟩
        refine u_step (o_pick_or rfl rfl rfl ?_)
        refine u_nil ?_
        refine hK17 _ ?_
        refine WP.cond rfl (fun hc18 => ?_) (fun hc18 => ?_)
        ·
          try simp only [Q0, Q1, Q2, Q3, Q4, Q5, Q6, Q7, Q8, ge_iff_le, gt_iff_lt] at hc18
          refine WP.seq fun K19 hK19 => ?_
          refine WP.reg tabOk rfl ?_
          refine u_step (o_assign rfl ?_)
          refine u_nil ?_
          refine hK19 _ ?_
          refine WP.ret ?_
          refine ret_ok rfl ?_ (by omega) (fun t ht => (hk2 t (by omega)))
          -- ret 4
          clear hK1 hK3 hK4 hK7 hK8 hK9 hK12 hK13 hK16 hK17 hK19
          refine congrArg D.bool ?_
          have hcn := coll_nil
          have hdi := @d_imp_i e.kind
          have hl0 : e.deltas.length = 0 ↔ e.deltas = [] := List.length_eq_zero_iff
          simp only [mayE, namesE, valuesE, List.length_map] at *
          grind
        ·
          try simp only [Q0, Q1, Q2, Q3, Q4, Q5, Q6, Q7, Q8, ge_iff_le, gt_iff_lt] at hc18
          refine WP.skip ?_
          refine hK16 _ ?_
          refine WP.seq fun K20 hK20 => ?_
          refine WP.reg tabOk rfl ?_
          refine u_step (o_fa_loc rfl th30 rfl rfl th3 (by decide) hb2 ?_)
          refine u_step (o_ld_loc rfl th3 rfl hb2 rfl ?_)
          refine u_step (o_bin_int rfl rfl (by decide) rfl ?_)
          refine u_step (o_move rfl ?_)
          apply u_guard
          · exact GC.f _
          · intro hg
            refine o_fa_loc rfl th30 rfl rfl th3 (by decide) hb2 ⟨rfl, rfl, rfl⟩
          apply u_guard
          · exact GC.f _
          · intro hg; try simp only [hg, cnd_true]; try simp only [hg, cnd_true, Bool.true_and]
            refine o_ld_loc rfl th3 rfl hb2 rfl ⟨rfl, rfl, rfl⟩
          apply u_guard
          · exact GC.f _
          · intro hg; try simp only [hg, cnd_true]; try simp only [hg, cnd_true, Bool.true_and]
            refine o_bin_int rfl rfl (by decide) rfl ⟨rfl, rfl, rfl⟩
          apply u_guard
          · exact GC.f _
          · intro hg; try simp only [hg, cnd_true]; try simp only [hg, cnd_true, Bool.true_and]
            refine o_move rfl ⟨rfl, rfl, rfl⟩
          apply u_guard
          · exact GC.ct _ _
          · intro hg
            refine o_fa_loc rfl th30 rfl rfl th3 (by decide) hb2 ⟨rfl, rfl, rfl⟩
          apply u_guard
          · exact GC.ct _ _
          · intro hg; try simp only [hg, cnd_true]; try simp only [hg, cnd_true, Bool.true_and]
            refine o_ld_loc rfl th3 rfl hb2 rfl ⟨rfl, rfl, rfl⟩
          apply u_guard
          · exact GC.ct _ _
          · intro hg; try simp only [hg, cnd_true]; try simp only [hg, cnd_true, Bool.true_and]
            refine o_bin_int rfl rfl (by decide) rfl ⟨rfl, rfl, rfl⟩
          apply u_guard
          · exact GC.f _
          · intro hg; try simp only [hg, cnd_true]; try simp only [hg, cnd_true, Bool.true_and]
            refine o_pick_and rfl rfl rfl ⟨rfl, rfl, rfl⟩
          refine u_step (o_pick_or rfl rfl rfl ?_)
          refine u_step (o_assign rfl ?_)
          refine u_nil ?_
          refine hK20 _ ?_
          refine WP.ret ?_
          refine ret_ok rfl ?_ (by omega) (fun t ht => (hk2 t (by omega)))
          -- ret 5
          clear hK1 hK3 hK4 hK7 hK8 hK9 hK12 hK13 hK16 hK17 hK20
          refine congrArg D.bool ?_
          have hcn := coll_nil
          have hdi := @d_imp_i e.kind
          have hl0 : e.deltas.length = 0 ↔ e.deltas = [] := List.length_eq_zero_iff
          simp only [mayE, namesE, valuesE, List.length_map] at *
          grind

end Go.Proofs.YtpkcbdhjnnnkbaaGreat.Abs

set_option linter.unusedVariables false
set_option linter.unusedSimpArgs false
set_option maxRecDepth 10000
namespace Go.Proofs.YtpkcbdhjnnnkbaaGreat.Abs
open Go
def kindIn (ks k : Int) : Bool := decide (ks / ((2 ^ k.toNat : Nat) : Int) % 2 = 1)
theorem and_tab : ∀ n : Nat, n < 256 → ∀ k : Nat, k < 8 → (bitsOf .and .i64 (n : Int) ((2 ^ k : Nat) : Int) == 0) = !decide ((n : Int) / ((2 ^ k : Nat) : Int) % 2 = 1) := by decide +kernel
theorem or_tab : ∀ n : Nat, n < 256 → ∀ k : Nat, k < 8 → bitsOf .or .i64 (n : Int) ((2 ^ k : Nat) : Int) = ((n ||| 2 ^ k : Nat) : Int) ∧ n ||| 2 ^ k < 256 := by decide +kernel
theorem low_tab : ∀ n : Nat, n < 256 → n % 4 = 0 → n &&& 18446744073709551363 = 0 := by decide +kernel
theorem and_kind {ks k : Int} (h1 : 0 ≤ ks) (h2 : ks < 256) (h3 : 0 ≤ k) (h4 : k ≤ 7) : (bitsOf .and .i64 ks ((2 ^ k.toNat : Nat) : Int) == 0) = !kindIn ks k := by
  obtain ⟨n, rfl⟩ := Int.eq_ofNat_of_zero_le h1
  exact and_tab n (by omega) k.toNat (by omega)
theorem quo_kind {ks k : Int} (h1 : 0 ≤ ks) (h2 : ks < 256) : (IntKind.i64.wrap (ks.tdiv ((2 ^ k.toNat : Nat) : Int))).tmod 2 = ks / ((2 ^ k.toNat : Nat) : Int) % 2 := by
  have hp : (0 : Int) < ((2 ^ k.toNat : Nat) : Int) := by have := Nat.two_pow_pos k.toNat; omega
  have hd : 0 ≤ ks / ((2 ^ k.toNat : Nat) : Int) := Int.ediv_nonneg h1 (by omega)
  have hle : ks / ((2 ^ k.toNat : Nat) : Int) ≤ ks := Int.ediv_le_self _ h1
  rw [Int.tdiv_eq_ediv_of_nonneg h1, wrap_i64 (by omega) (by omega), Int.tmod_eq_emod_of_nonneg hd]
theorem shl1 {k : Int} (h : 0 ≤ k) (h2 : k ≤ 62) : shBin .shl .i64 1 k = some (.int .i64 ((2 ^ k.toNat : Nat) : Int)) := by
  have h62 : ∀ j : Nat, j < 63 → IntKind.i64.wrap (1 * 2 ^ min j 64) = ((2 ^ j : Nat) : Int) := by decide +kernel
  simp only [shBin]
  rw [if_neg (by omega)]
  exact congrArg (fun m : Int => some (D.int .i64 m)) (h62 k.toNat (by omega))
theorem andNot252 {x : Int} (h1 : -9223372036854775808 ≤ x) (h2 : x ≤ 9223372036854775807) : (bitsOf .andNot .i64 x 252 == 0) = (decide (0 ≤ x) && decide (x < 256) && decide (x % 4 = 0)) := by
  have hn : (BitVec.ofInt 64 x &&& ~~~(BitVec.ofInt 64 252)).toNat = (BitVec.ofInt 64 x).toNat &&& 18446744073709551363 := by
    rw [BitVec.toNat_and]; rfl
  have hx : (BitVec.ofInt 64 x).toNat = (x % 18446744073709551616).toNat := by rw [BitVec.toNat_ofInt]; rfl
  have e : bitsOf .andNot .i64 x 252 = IntKind.i64.wrap (((x % 18446744073709551616).toNat &&& 18446744073709551363 : Nat) : Int) := by
    show IntKind.i64.wrap ((BitVec.ofInt 64 x &&& ~~~(BitVec.ofInt 64 252)).toNat : Int) = _
    rw [hn, hx]
  rw [e]
  generalize hm : (x % 18446744073709551616).toNat = n
  have hlt : n < 18446744073709551616 := by omega
  have hy : n &&& 18446744073709551363 < 18446744073709551616 := Nat.lt_of_le_of_lt Nat.and_le_left hlt
  have hw : IntKind.i64.wrap ((n &&& 18446744073709551363 : Nat) : Int) = 0 ↔ n &&& 18446744073709551363 = 0 := by
    rw [IntKind.wrap_i64]; omega
  have hz : n &&& 18446744073709551363 = 0 ↔ n < 256 ∧ n % 4 = 0 := by
    constructor
    · intro h
      have h4 : n % 4 = 0 := by
        have a : n &&& 3 = n % 4 := Nat.and_two_pow_sub_one_eq_mod n 2
        have b : (n &&& 18446744073709551363) &&& 3 = n &&& 3 := by rw [Nat.and_assoc, show (18446744073709551363 &&& 3 : Nat) = 3 from by decide]
        rw [← a, ← b, h]; rfl
      have h8 : n / 256 = 0 := by
        have a : (n &&& 18446744073709551363) >>> 8 = (n >>> 8) &&& (18446744073709551363 >>> 8) := Nat.shiftRight_and_distrib
        rw [h] at a
        have b : n >>> 8 = n / 256 := Nat.shiftRight_eq_div_pow n 8
        have c : (n / 256) &&& 72057594037927935 = (n / 256) % 72057594037927936 := Nat.and_two_pow_sub_one_eq_mod _ 56
        rw [b] at a
        have d : (0 : Nat) >>> 8 = 0 := rfl
        have e : (18446744073709551363 : Nat) >>> 8 = 72057594037927935 := rfl
        rw [d, e, c] at a
        omega
      omega
    · rintro ⟨h, h'⟩; exact low_tab n h h'
  rw [Bool.eq_iff_iff]
  simp only [beq_iff_eq, Bool.and_eq_true, decide_eq_true_eq, hw, hz]
  omega
/-- The sum of kinds. -/
def ofN : List Int → Nat → Nat
  | [], x => x
  | k :: r, x => ofN r (if 1 < k ∧ k ≤ 7 then x ||| 2 ^ k.toNat else x)
theorem ofN_snoc : ∀ (l : List Int) (k : Int) (x : Nat), ofN (l ++ [k]) x = if 1 < k ∧ k ≤ 7 then ofN l x ||| 2 ^ k.toNat else ofN l x
  | [], k, x => rfl
  | y :: l, k, x => by simp only [List.cons_append, ofN]; exact ofN_snoc l k _
theorem ofN_lt : ∀ (l : List Int) (x : Nat), x < 256 → ofN l x < 256
  | [], x, h => h
  | k :: l, x, h => by
    simp only [ofN]
    refine ofN_lt l _ ?_
    split
    · exact (or_tab x h k.toNat (by omega)).2
    · exact h
theorem ofN_take {l : List Int} {i : Nat} (h : i < l.length) : ofN (l.take (i + 1)) 0 = if 1 < l[i]'h ∧ l[i]'h ≤ 7 then ofN (l.take i) 0 ||| 2 ^ (l[i]'h).toNat else ofN (l.take i) 0 := by
  rw [List.take_succ_eq_append_getElem h, ofN_snoc]
def mayF (f : Flt) : Bool := (decide (f.coll = []) || collV f.coll) && (decide (f.path.length = 0) || pathV f.path) && (decide (0 ≤ f.kinds) && decide (f.kinds < 256) && decide (f.kinds % 4 = 0))
structure OkF (f : Flt) : Prop where
  lo : -9223372036854775808 ≤ f.kinds
  hi : f.kinds ≤ 9223372036854775807

theorem fn23 : FnOk Tryz.prog 23 24 [2] (bodyOf Tryz.f23) := ⟨Tryz.f23, Tryz.func23, by kernel_rfl, by decide, by kernel_rfl, by kernel_rfl⟩
theorem s23 (l : List Int) : PSpec Tryz.prog 23 [.d (.sl 1 (l.map (D.int .i64)))] (.d (.int .i64 (ofN l 0 : Nat))) := by
  refine PSpec.bd fun hbd => ?_
  have hx : l.length ≤ 9223372036854775807 := by simpa using hbd.1.1
  refine PSpec.of fn23 (by simp) fun o nk => ?_
  refine WP.seq fun K1 hK1 => ?_
  refine WP.reg tabOk rfl ?_
  refine u_step (o_assign rfl ?_)
  refine u_nil ?_
  refine hK1 _ ?_
  refine WP.seq fun K2 hK2 => ?_
  refine WP.reg tabOk rfl ?_
  refine u_step (o_assign rfl ?_)
  refine u_nil ?_
  refine hK2 _ ?_
  refine WP.seq fun K3 hK3 => ?_
  refine WP.seq fun K4 hK4 => ?_
  refine WP.reg tabOk rfl ?_
  refine u_step (o_move rfl ?_)
  refine u_step (o_len_sl rfl th37 rfl ?_)
  refine u_step (o_move rfl ?_)
  refine u_nil ?_
  refine hK4 _ ?_
  refine WP.block ?_
  refine WP.loopL (ι := Nat) (fun i => ⟨al [(3, .d (.int .i64 (ofN (l.take i) 0 : Nat))), (6, .d (.sl 1 (l.map (D.int .i64)))), (7, .d (.int .i64 (l.map (D.int .i64)).length)), (8, .d (.int .i64 i))], o, nk⟩) (fun i => i ≤ l.length ∧ True) (fun i => l.length - i) (fun i hA => ?_) 0 ?_ ?_
  ·
    obtain ⟨hle_i, hin_i⟩ := hA
    refine WP.seq fun K5 hK5 => ?_
    refine WP.reg tabOk rfl ?_
    refine u_step (o_bin_int rfl rfl (by decide) rfl ?_)
    refine u_nil ?_
    refine hK5 _ ?_
    refine WP.seq fun K6 hK6 => ?_
    refine WP.cond rfl (fun hc7 => ?_) (fun hc7 => ?_)
    ·
      try simp only [Q0, Q1, Q2, Q3, Q4, Q5, Q6, Q7, Q8, ge_iff_le, gt_iff_lt] at hc7
      refine WP.skip ?_
      refine hK6 _ ?_
      refine WP.seq fun K8 hK8 => ?_
      refine WP.block ?_
      refine WP.seq fun K9 hK9 => ?_
      refine WP.reg tabOk rfl ?_
      first | refine u_step (o_ia_map rfl rfl th37 rfl th3 rfl (by omega) ?_) | refine u_step (o_ia_vs rfl rfl th37 rfl th3 rfl (by omega) ?_)
      refine u_step (o_ld_el rfl th3 rfl rfl ?_)
      refine u_step (o_assign rfl ?_)
      refine u_nil ?_
      refine hK9 _ ?_
      refine WP.seq fun K10 hK10 => ?_
      refine WP.reg tabOk rfl ?_
      refine u_step (o_move rfl ?_)
      refine u_step (o_bin_int rfl rfl (by decide) rfl ?_)
      refine u_step (o_move rfl ?_)
      apply u_guard
      · exact GC.t _
      · intro hg
        refine o_move rfl ⟨rfl, rfl, rfl⟩
      apply u_guard
      · exact GC.t _
      · intro hg; try simp only [hg, cnd_true]; try simp only [hg, cnd_true, Bool.true_and]
        refine o_bin_int rfl rfl (by decide) rfl ⟨rfl, rfl, rfl⟩
      refine u_step (o_pick_and rfl rfl rfl ?_)
      refine u_nil ?_
      refine hK10 _ ?_
      refine WP.cond rfl (fun hc11 => ?_) (fun hc11 => ?_)
      ·
        try simp only [Q0, Q1, Q2, Q3, Q4, Q5, Q6, Q7, Q8, ge_iff_le, gt_iff_lt] at hc11
        have hk : 1 < l[i] ∧ l[i] ≤ 7 := by simpa using hc11
        refine WP.reg tabOk rfl ?_
        refine u_step (o_move rfl ?_)
        refine u_step (o_move rfl ?_)
        refine u_step (o_bin_sh rfl rfl (shl1 (by omega) (by omega)) ?_)
        refine u_step (o_bin_int rfl rfl (by decide) rfl ?_)
        refine u_step (o_assign rfl ?_)
        refine u_nil ?_
        refine hK8 _ ?_
        refine WP.reg tabOk rfl ?_
        refine u_step (o_bin_int rfl rfl (by decide) rfl ?_)
        refine u_step (o_move rfl ?_)
        refine u_nil ?_
        -- back
        have hot := ofN_take (l := l) (i := i) (by omega)
        have hlt := ofN_lt (l.take i) 0 (by omega)
        refine ⟨i + 1, ⟨by omega, trivial⟩, by omega, ?_⟩
        refine Le.al ?_
        simp only [List.forall_mem_cons]
        refine ⟨?_, rfl, rfl, cnt (by omega), by simp⟩
        have hl := hc11
        first | (rw [hot, if_pos hk, ← (or_tab _ hlt l[i].toNat (by omega)).1]; rfl) | (rw [hot, if_neg (by simpa using hl)]; rfl)
      ·
        try simp only [Q0, Q1, Q2, Q3, Q4, Q5, Q6, Q7, Q8, ge_iff_le, gt_iff_lt] at hc11
        refine WP.skip ?_
        refine hK8 _ ?_
        refine WP.reg tabOk rfl ?_
        refine u_step (o_bin_int rfl rfl (by decide) rfl ?_)
        refine u_step (o_move rfl ?_)
        refine u_nil ?_
        -- back
        have hot := ofN_take (l := l) (i := i) (by omega)
        have hlt := ofN_lt (l.take i) 0 (by omega)
        refine ⟨i + 1, ⟨by omega, trivial⟩, by omega, ?_⟩
        refine Le.al ?_
        simp only [List.forall_mem_cons]
        refine ⟨?_, rfl, rfl, cnt (by omega), by simp⟩
        have hl := hc11
        first | (rw [hot, if_pos hk, ← (or_tab _ hlt l[i].toNat (by omega)).1]; rfl) | (rw [hot, if_neg (by simpa using hl)]; rfl)
    ·
      try simp only [Q0, Q1, Q2, Q3, Q4, Q5, Q6, Q7, Q8, ge_iff_le, gt_iff_lt] at hc7
      refine WP.exit ?_
      refine hK3 _ ?_
      refine WP.seq fun K12 hK12 => ?_
      refine WP.reg tabOk rfl ?_
      refine u_step (o_move rfl ?_)
      refine u_step (o_assign rfl ?_)
      refine u_nil ?_
      refine hK12 _ ?_
      refine WP.ret ?_
      refine ret_ok rfl ?_ (by omega) (fun _ _ => rfl)
      -- ret 1
      rw [List.take_of_length_le (by omega)]
  ·
    simp
  ·
    refine Le.al ?_
    simp only [List.forall_mem_cons]
    exact ⟨rfl, rfl, rfl, rfl, by simp⟩

theorem fn57 : FnOk Tryz.prog 57 3 [0] (bodyOf Tryz.f57) := ⟨Tryz.f57, Tryz.func57, by kernel_rfl, by decide, by kernel_rfl, by kernel_rfl⟩
theorem s57  : PSpec Tryz.prog 57 [] (.d (.int .i64 252)) := by
  refine PSpec.of fn57 (by simp) fun o nk => ?_
  refine WP.seq fun K1 hK1 => ?_
  refine WP.reg tabOk rfl ?_
  refine u_step (o_assign rfl ?_)
  refine u_nil ?_
  refine hK1 _ ?_
  refine WP.seq fun K2 hK2 => ?_
  refine WP.reg tabOk rfl ?_
  refine u_step (o_bs rfl th37 rfl th3 rfl rfl (by decide) rfl (by decide) (by decide) ?_)
  refine u_step (o_pcall (s23 [2, 3, 4, 5, 6, 7]) rfl ?_)
  refine u_step (o_assign rfl ?_)
  refine u_nil ?_
  refine hK2 _ ?_
  refine WP.ret ?_
  refine ret_ok rfl ?_ (by omega) (fun _ _ => rfl)
  -- ret 1
  rfl

theorem fn15 : FnOk Tryz.prog 15 28 [2] (bodyOf Tryz.f15) := ⟨Tryz.f15, Tryz.func15, by kernel_rfl, by decide, by kernel_rfl, by kernel_rfl⟩
theorem s15 (f : Flt) (ok : OkF f) : PSpec Tryz.prog 15 [.d (encF f)] (.d (.bool (mayF f))) := by
  have hn := andNot252 ok.lo ok.hi
  refine PSpec.of fn15 (by simp) fun o nk => ?_
  refine WP.seq fun K1 hK1 => ?_
  refine WP.reg tabOk rfl ?_
  refine u_step (g_box rfl fun o2 hb2 hk2 => ?_)
  refine u_step (o_assign rfl ?_)
  refine u_nil ?_
  refine hK1 _ ?_
  refine WP.seq fun K3 hK3 => ?_
  refine WP.block ?_
  refine WP.seq fun K4 hK4 => ?_
  refine WP.seq fun K5 hK5 => ?_
  refine WP.reg tabOk rfl ?_
  refine u_step (o_fa_loc rfl th24 rfl rfl th9 (by decide) hb2 ?_)
  refine u_step (o_ld_loc rfl th9 rfl hb2 rfl ?_)
  refine u_step (o_bin_str rfl (show _ = SV.d (.str []) from rfl) rfl ?_)
  refine u_step (o_move rfl ?_)
  apply u_guard
  · exact GC.t _
  · intro hg
    refine o_fa_loc rfl th24 rfl rfl th9 (by decide) hb2 ⟨rfl, rfl, rfl⟩
  apply u_guard
  · exact GC.t _
  · intro hg; try simp only [hg, cnd_true]; try simp only [hg, cnd_true, Bool.true_and]
    refine o_ld_loc rfl th9 rfl hb2 rfl ⟨rfl, rfl, rfl⟩
  apply u_guard
  · exact GC.t _
  · intro hg; try simp only [hg, cnd_true]; try simp only [hg, cnd_true, Bool.true_and]
    refine o_pcall (s48 f.coll) rfl ⟨rfl, rfl, rfl⟩
  apply u_guard
  · exact GC.t _
  · intro hg; try simp only [hg, cnd_true]; try simp only [hg, cnd_true, Bool.true_and]
    refine o_not rfl ⟨rfl, rfl, rfl⟩
  refine u_step (o_pick_and rfl rfl rfl ?_)
  refine u_step (o_assign rfl ?_)
  refine u_nil ?_
  refine hK5 _ ?_
  refine WP.cond rfl (fun hc6 => ?_) (fun hc6 => ?_)
  ·
    try simp only [Q0, Q1, Q2, Q3, Q4, Q5, Q6, Q7, Q8, ge_iff_le, gt_iff_lt] at hc6
    refine WP.skip ?_
    refine hK4 _ ?_
    refine WP.cond rfl (fun hc7 => ?_) (fun hc7 => ?_)
    ·
      try simp only [Q0, Q1, Q2, Q3, Q4, Q5, Q6, Q7, Q8, ge_iff_le, gt_iff_lt] at hc7
      refine WP.seq fun K8 hK8 => ?_
      refine WP.reg tabOk rfl ?_
      refine u_step (o_assign rfl ?_)
      refine u_nil ?_
      refine hK8 _ ?_
      refine WP.ret ?_
      refine ret_ok rfl ?_ (by omega) (fun t ht => (hk2 t (by omega)))
      -- ret 1
      clear hK1 hK3 hK4 hK5 hK8
      refine congrArg D.bool ?_
      simp only [mayF, List.length_map] at *
      grind
    ·
      try simp only [Q0, Q1, Q2, Q3, Q4, Q5, Q6, Q7, Q8, ge_iff_le, gt_iff_lt] at hc7
      refine WP.skip ?_
      refine hK3 _ ?_
      refine WP.seq fun K9 hK9 => ?_
      refine WP.drw tabOk (by kernel_rfl) rfl (by kernel_rfl) ?_
      refine d_step (o_fa_loc rfl th24 rfl rfl th3 (by decide) hb2 ⟨rfl, rfl, rfl⟩) ?_
      refine d_step (o_ld_loc rfl th3 rfl hb2 rfl ⟨rfl, rfl, rfl⟩) ?_
      refine d_step (o_pcall (s57) rfl ⟨rfl, rfl, rfl⟩) ?_
      refine d_step (o_bin_int rfl rfl (by decide) rfl ⟨rfl, rfl, rfl⟩) ?_
      refine d_step (o_bin_int rfl rfl (by decide) rfl ⟨rfl, rfl, rfl⟩) ?_
      refine d_step (o_assign rfl ⟨rfl, rfl, rfl⟩) ?_
      refine d_nil ?_
      refine hK9 _ ?_
      refine WP.ret ?_
      refine ret_ok rfl ?_ (by omega) (fun t ht => (hk2 t (by omega)))
      -- ret 2
      clear hK1 hK3 hK4 hK5 hK9
      refine congrArg D.bool ?_
      simp only [mayF, List.length_map] at *
      grind
  ·
    try simp only [Q0, Q1, Q2, Q3, Q4, Q5, Q6, Q7, Q8, ge_iff_le, gt_iff_lt] at hc6
    refine WP.reg tabOk rfl ?_
    refine u_step (o_fa_loc rfl th24 rfl rfl th22 (by decide) hb2 ?_)
    refine u_step (o_ld_loc rfl th22 rfl hb2 rfl ?_)
    refine u_step (o_len_sl rfl th22 rfl ?_)
    refine u_step (o_bin_int rfl rfl (by decide) rfl ?_)
    refine u_step (o_move rfl ?_)
    apply u_guard
    · exact GC.t _
    · intro hg
      refine o_fa_loc rfl th24 rfl rfl th22 (by decide) hb2 ⟨rfl, rfl, rfl⟩
    apply u_guard
    · exact GC.t _
    · intro hg; try simp only [hg, cnd_true]; try simp only [hg, cnd_true, Bool.true_and]
      refine o_ld_loc rfl th22 rfl hb2 rfl ⟨rfl, rfl, rfl⟩
    apply u_guard
    · exact GC.t _
    · intro hg; try simp only [hg, cnd_true]; try simp only [hg, cnd_true, Bool.true_and]
      refine o_pcall (s56 f.path) rfl ⟨rfl, rfl, rfl⟩
    apply u_guard
    · exact GC.t _
    · intro hg; try simp only [hg, cnd_true]; try simp only [hg, cnd_true, Bool.true_and]
      refine o_not rfl ⟨rfl, rfl, rfl⟩
    refine u_step (o_pick_and rfl rfl rfl ?_)
    refine u_step (o_assign rfl ?_)
    refine u_nil ?_
    refine hK4 _ ?_
    refine WP.cond rfl (fun hc10 => ?_) (fun hc10 => ?_)
    ·
      try simp only [Q0, Q1, Q2, Q3, Q4, Q5, Q6, Q7, Q8, ge_iff_le, gt_iff_lt] at hc10
      refine WP.seq fun K11 hK11 => ?_
      refine WP.reg tabOk rfl ?_
      refine u_step (o_assign rfl ?_)
      refine u_nil ?_
      refine hK11 _ ?_
      refine WP.ret ?_
      refine ret_ok rfl ?_ (by omega) (fun t ht => (hk2 t (by omega)))
      -- ret 3
      clear hK1 hK3 hK4 hK5 hK11
      refine congrArg D.bool ?_
      simp only [mayF, List.length_map] at *
      grind
    ·
      try simp only [Q0, Q1, Q2, Q3, Q4, Q5, Q6, Q7, Q8, ge_iff_le, gt_iff_lt] at hc10
      refine WP.skip ?_
      refine hK3 _ ?_
      refine WP.seq fun K12 hK12 => ?_
      refine WP.drw tabOk (by kernel_rfl) rfl (by kernel_rfl) ?_
      refine d_step (o_fa_loc rfl th24 rfl rfl th3 (by decide) hb2 ⟨rfl, rfl, rfl⟩) ?_
      refine d_step (o_ld_loc rfl th3 rfl hb2 rfl ⟨rfl, rfl, rfl⟩) ?_
      refine d_step (o_pcall (s57) rfl ⟨rfl, rfl, rfl⟩) ?_
      refine d_step (o_bin_int rfl rfl (by decide) rfl ⟨rfl, rfl, rfl⟩) ?_
      refine d_step (o_bin_int rfl rfl (by decide) rfl ⟨rfl, rfl, rfl⟩) ?_
      refine d_step (o_assign rfl ⟨rfl, rfl, rfl⟩) ?_
      refine d_nil ?_
      refine hK12 _ ?_
      refine WP.ret ?_
      refine ret_ok rfl ?_ (by omega) (fun t ht => (hk2 t (by omega)))
      -- ret 4
      clear hK1 hK3 hK4 hK5 hK12
      refine congrArg D.bool ?_
      simp only [mayF, List.length_map] at *
      grind

theorem fn16 : FnOk Tryz.prog 16 38 [2] (bodyOf Tryz.f16) := ⟨Tryz.f16, Tryz.func16, by kernel_rfl, by decide, by kernel_rfl, by kernel_rfl⟩
theorem s16 (f : Flt) : PSpec Tryz.prog 16 [.d (encF f)] (.d (.bool (mayF f))) := by
  refine PSpec.of fn16 (by simp) fun o nk => ?_
  refine WP.seq fun K1 hK1 => ?_
  refine WP.reg tabOk rfl ?_
  refine u_step (g_box rfl fun o2 hb2 hk2 => ?_)
  refine u_step (o_assign rfl ?_)
  refine u_nil ?_
  refine hK1 _ ?_
  refine WP.seq fun K3 hK3 => ?_
  refine WP.seq fun K4 hK4 => ?_
  refine WP.reg tabOk rfl ?_
  refine u_step (o_fa_loc rfl th24 rfl rfl th9 (by decide) hb2 ?_)
  refine u_step (o_ld_loc rfl th9 rfl hb2 rfl ?_)
  refine u_step (o_bin_str rfl (show _ = SV.d (.str []) from rfl) rfl ?_)
  refine u_step (o_move rfl ?_)
  apply u_guard
  · exact GC.t _
  · intro hg
    refine o_fa_loc rfl th24 rfl rfl th9 (by decide) hb2 ⟨rfl, rfl, rfl⟩
  apply u_guard
  · exact GC.t _
  · intro hg; try simp only [hg, cnd_true]; try simp only [hg, cnd_true, Bool.true_and]
    refine o_ld_loc rfl th9 rfl hb2 rfl ⟨rfl, rfl, rfl⟩
  apply u_guard
  · exact GC.t _
  · intro hg; try simp only [hg, cnd_true]; try simp only [hg, cnd_true, Bool.true_and]
    refine o_pcall (s49 f.coll) rfl ⟨rfl, rfl, rfl⟩
  apply u_guard
  · exact GC.t _
  · intro hg; try simp only [hg, cnd_true]; try simp only [hg, cnd_true, Bool.true_and]
    refine o_not rfl ⟨rfl, rfl, rfl⟩
  refine u_step (o_pick_and rfl rfl rfl ?_)
  refine u_step (o_move rfl ?_)
  apply u_guard
  · exact GC.f _
  · intro hg
    refine o_fa_loc rfl th24 rfl rfl th22 (by decide) hb2 ⟨rfl, rfl, rfl⟩
  apply u_guard
  · exact GC.f _
  · intro hg; try simp only [hg, cnd_true]; try simp only [hg, cnd_true, Bool.true_and]
    refine o_ld_loc rfl th22 rfl hb2 rfl ⟨rfl, rfl, rfl⟩
  apply u_guard
  · exact GC.f _
  · intro hg; try simp only [hg, cnd_true]; try simp only [hg, cnd_true, Bool.true_and]
    refine o_len_sl rfl th22 rfl ⟨rfl, rfl, rfl⟩
  apply u_guard
  · exact GC.f _
  · intro hg; try simp only [hg, cnd_true]; try simp only [hg, cnd_true, Bool.true_and]
    refine o_bin_int rfl rfl (by decide) rfl ⟨rfl, rfl, rfl⟩
  apply u_guard
  · exact GC.f _
  · intro hg; try simp only [hg, cnd_true]; try simp only [hg, cnd_true, Bool.true_and]
    refine o_move rfl ⟨rfl, rfl, rfl⟩
  apply u_guard
  · exact GC.ct _ _
  · intro hg
    refine o_fa_loc rfl th24 rfl rfl th22 (by decide) hb2 ⟨rfl, rfl, rfl⟩
  apply u_guard
  · exact GC.ct _ _
  · intro hg; try simp only [hg, cnd_true]; try simp only [hg, cnd_true, Bool.true_and]
    refine o_ld_loc rfl th22 rfl hb2 rfl ⟨rfl, rfl, rfl⟩
  apply u_guard
  · exact GC.ct _ _
  · intro hg; try simp only [hg, cnd_true]; try simp only [hg, cnd_true, Bool.true_and]
    refine o_pcall (s58 f.path) rfl ⟨rfl, rfl, rfl⟩
  apply u_guard
  · exact GC.ct _ _
  · intro hg; try simp only [hg, cnd_true]; try simp only [hg, cnd_true, Bool.true_and]
    refine o_not rfl ⟨rfl, rfl, rfl⟩
  apply u_guard
  · exact GC.f _
  · intro hg; try simp only [hg, cnd_true]; try simp only [hg, cnd_true, Bool.true_and]
    refine o_pick_and rfl rfl rfl ⟨rfl, rfl, rfl⟩
  refine u_step (o_pick_or rfl rfl rfl ?_)
  refine u_nil ?_
  refine hK4 _ ?_
  refine WP.cond rfl (fun hc5 => ?_) (fun hc5 => ?_)
  ·
    try simp only [Q0, Q1, Q2, Q3, Q4, Q5, Q6, Q7, Q8, ge_iff_le, gt_iff_lt] at hc5
    refine WP.seq fun K6 hK6 => ?_
    refine WP.reg tabOk rfl ?_
    refine u_step (o_assign rfl ?_)
    refine u_nil ?_
    refine hK6 _ ?_
    refine WP.ret ?_
    refine ret_ok rfl ?_ (by omega) (fun t ht => (hk2 t (by omega)))
    -- ret 1
    clear hK1 hK3 hK4 hK6
    refine congrArg D.bool ?_
    have ht : 0 ≤ f.kinds → f.kinds.tmod 4 = f.kinds % 4 := fun h => Int.tmod_eq_emod_of_nonneg h
    simp only [mayF, List.length_map] at *
    grind
  ·
    try simp only [Q0, Q1, Q2, Q3, Q4, Q5, Q6, Q7, Q8, ge_iff_le, gt_iff_lt] at hc5
    refine WP.skip ?_
    refine hK3 _ ?_
    refine WP.seq fun K7 hK7 => ?_
    refine WP.reg tabOk rfl ?_
    refine u_step (o_fa_loc rfl th24 rfl rfl th3 (by decide) hb2 ?_)
    refine u_step (o_ld_loc rfl th3 rfl hb2 rfl ?_)
    refine u_step (o_bin_int rfl rfl (by decide) rfl ?_)
    refine u_step (o_move rfl ?_)
    apply u_guard
    · exact GC.t _
    · intro hg
      refine o_fa_loc rfl th24 rfl rfl th3 (by decide) hb2 ⟨rfl, rfl, rfl⟩
    apply u_guard
    · exact GC.t _
    · intro hg; try simp only [hg, cnd_true]; try simp only [hg, cnd_true, Bool.true_and]
      refine o_ld_loc rfl th3 rfl hb2 rfl ⟨rfl, rfl, rfl⟩
    apply u_guard
    · exact GC.t _
    · intro hg; try simp only [hg, cnd_true]; try simp only [hg, cnd_true, Bool.true_and]
      refine o_bin_int rfl rfl (by decide) rfl ⟨rfl, rfl, rfl⟩
    refine u_step (o_pick_and rfl rfl rfl ?_)
    refine u_step (o_move rfl ?_)
    apply u_guard
    · exact GC.t _
    · intro hg
      refine o_fa_loc rfl th24 rfl rfl th3 (by decide) hb2 ⟨rfl, rfl, rfl⟩
    apply u_guard
    · exact GC.t _
    · intro hg; try simp only [hg, cnd_true]; try simp only [hg, cnd_true, Bool.true_and]
      refine o_ld_loc rfl th3 rfl hb2 rfl ⟨rfl, rfl, rfl⟩
    apply u_guard
    · exact GC.t _
    · intro hg; try simp only [hg, cnd_true]; try simp only [hg, cnd_true, Bool.true_and]
      refine o_bin_int rfl rfl (by decide) rfl ⟨rfl, rfl, rfl⟩
    apply u_guard
    · exact GC.t _
    · intro hg; try simp only [hg, cnd_true]; try simp only [hg, cnd_true, Bool.true_and]
      refine o_bin_int rfl rfl (by decide) rfl ⟨rfl, rfl, rfl⟩
    refine u_step (o_pick_and rfl rfl rfl ?_)
    refine u_step (o_assign rfl ?_)
    refine u_nil ?_
    refine hK7 _ ?_
    refine WP.ret ?_
    refine ret_ok rfl ?_ (by omega) (fun t ht => (hk2 t (by omega)))
    -- ret 2
    clear hK1 hK3 hK4 hK7
    refine congrArg D.bool ?_
    have ht : 0 ≤ f.kinds → f.kinds.tmod 4 = f.kinds % 4 := fun h => Int.tmod_eq_emod_of_nonneg h
    simp only [mayF, List.length_map] at *
    grind

theorem fn59 : FnOk Tryz.prog 59 11 [4] (bodyOf Tryz.f59) := ⟨Tryz.f59, Tryz.func59, by kernel_rfl, by decide, by kernel_rfl, by kernel_rfl⟩
theorem s59 (f : Flt) (e : Etr) (okf : OkF f) (ok : OkE e) : PSpec Tryz.prog 59 [.d (encF f), .d (encE e)] (.d (.bool (mayF f && mayE e))) := by
  refine PSpec.of fn59 (by simp) fun o nk => ?_
  refine WP.seq fun K1 hK1 => ?_
  refine WP.reg tabOk rfl ?_
  refine u_step (g_box rfl fun o2 hb2 hk2 => ?_)
  refine u_step (g_box rfl fun o3 hb3 hk3 => ?_)
  have hb2_3 := (hk3 _ (by omega)).trans hb2
  refine u_step (o_assign rfl ?_)
  refine u_nil ?_
  refine hK1 _ ?_
  refine WP.seq fun K4 hK4 => ?_
  refine WP.reg tabOk rfl ?_
  refine u_step (o_ld_agg rfl th24 rfl hb2_3 rfl rfl rfl ?_)
  refine u_step (o_pcall (s15 f okf) rfl ?_)
  refine u_step (o_move rfl ?_)
  apply u_guard
  · exact GC.t _
  · intro hg
    refine o_ld_agg rfl th30 rfl hb3 rfl rfl rfl ⟨rfl, rfl, rfl⟩
  apply u_guard
  · exact GC.t _
  · intro hg; try simp only [hg, cnd_true]; try simp only [hg, cnd_true, Bool.true_and]
    refine o_pcall (s45 e ok) rfl ⟨rfl, rfl, rfl⟩
  refine u_step (o_pick_and rfl rfl rfl ?_)
  refine u_step (o_assign rfl ?_)
  refine u_nil ?_
  refine hK4 _ ?_
  refine WP.ret ?_
  refine ret_ok rfl ?_ (by omega) (fun t ht => (hk3 t (by omega)).trans ((hk2 t (by omega))))
  -- ret 1
  rfl

end Go.Proofs.YtpkcbdhjnnnkbaaGreat.Abs

set_option linter.unusedVariables false
set_option linter.unusedSimpArgs false
set_option maxRecDepth 10000
namespace Go.Proofs.YtpkcbdhjnnnkbaaGreat.Abs
open Go
def ofCollV (f : Flt) (e : Etr) : Bool := decide (f.coll = []) || decide (e.coll = f.coll) || (decide (e.kind = 7) && decide (e.to = f.coll))
def atPathV (f : Flt) (e : Etr) : Bool := if f.path.length = 0 then true else if e.kind = 2 then (getP e.doc f.path).isSome else if e.kind = 3 then touchD e.deltas f.path else true
noncomputable def matchV (f : Flt) (e : Etr) : Bool := mayF f && mayE e && !decide (e.kind = 1) && (decide (f.kinds = 0) || kindIn f.kinds e.kind) && ofCollV f e && atPathV f e
noncomputable def endsV (f : Flt) (e : Etr) : Bool := mayF f && mayE e && !decide (f.coll = []) && (decide (e.kind = 6) || decide (e.kind = 7)) && decide (e.coll = f.coll)
theorem mayF_kinds {f : Flt} (h : mayF f = true) : 0 ≤ f.kinds ∧ f.kinds < 256 := by
  simp only [mayF, Bool.and_eq_true, decide_eq_true_eq] at h
  exact h.2.1
theorem mayE_kind {e : Etr} (h : mayE e = true) : 1 ≤ e.kind ∧ e.kind ≤ 7 := by
  simp only [mayE, Bool.and_eq_true, decide_eq_true_eq] at h
  grind
theorem mayE_doc {e : Etr} (h : mayE e = true) (hk : e.kind = 2) : e.doc.kind = 7 ∧ checkV e.doc = 0 := by
  simp only [mayE, valuesE, Bool.and_eq_true] at h
  have h1 := h.2.1.2
  rw [hk] at h1
  simp only [hasD, mayDocV] at h1
  simp at h1
  exact ⟨h1.1, h1.2.1⟩
theorem mayF_path {f : Flt} (h : mayF f = true) (hp : ¬ f.path.length = 0) : pathV f.path = true := by
  simp only [mayF, Bool.and_eq_true, Bool.or_eq_true, decide_eq_true_eq] at h
  exact h.1.2.resolve_left hp
theorem getP_doc {f : Flt} {e : Etr} (hf : mayF f = true) (he : mayE e = true) (hk : e.kind = 2) (hp : ¬ f.path.length = 0) : getP e.doc f.path = getV e.doc f.path := by
  obtain ⟨h1, h2⟩ := mayE_doc he hk
  unfold getP
  rw [if_pos ⟨h1, check_may h2, mayF_path hf hp⟩]
theorem match_at {f : Flt} {e : Etr} (hmf : mayF f = true) (hme : mayE e = true) (hk1 : ¬ e.kind = 1) (hkn : (decide (f.kinds = 0) || kindIn f.kinds e.kind) = true) (hco : ofCollV f e = true) : matchV f e = atPathV f e := by
  simp only [matchV, hmf, hme, hkn, hco, hk1, decide_false, Bool.not_false, Bool.and_true, Bool.true_and]
theorem o_ia_G {P : Program} {Θ : Tab} {K : SV → (Nat → Option AO) → Nat → Prop} {sl : Nat → SV} {o : Nat → Option AO} {nk : Nat} {x ix : Operand} {t e : Nat} {α : Type} {i j : TI} {z : Nat} {xs : List α} {g : α → D} {k : IntKind} {m : Nat} (d0 : α) (hx : ev sl x = .d (.sl z (xs.map g))) (hy : ev sl ix = .d (.int k (m : Int))) (hi : Θ t = some i) (hk : i.k = .slice e) (hj : Θ e = some j) (hz : z = j.sz) (hlt : m < xs.length) (h : K (.el (g (xs.getD m d0))) o nk) : vOp P Θ (.indexAddr t x ix) ⟨sl, o, nk⟩ K := o_ia_mapG d0 hx hy hi hk hj hz hlt h
theorem ent_bd {e : Etr} (h : D.bd (encE e)) : e.deltas.length ≤ 9223372036854775807 := by
  simp only [encE, D.bd, valCells, List.cons_append, List.nil_append, D.bds, List.length_map] at h
  exact h.2.2.2.2.2.2.2.2.2.2.2.2.2.2.1.1
instance : Inhabited Dlt := ⟨⟨0, [], zeroV, 0⟩⟩

theorem fn60 : FnOk Tryz.prog 60 27 [4] (bodyOf Tryz.f60) := ⟨Tryz.f60, Tryz.func60, by kernel_rfl, by decide, by kernel_rfl, by kernel_rfl⟩
theorem s60 (f : Flt) (e : Etr) : PSpec Tryz.prog 60 [.d (encF f), .d (encE e)] (.d (.bool (ofCollV f e))) := by
  refine PSpec.of fn60 (by simp) fun o nk => ?_
  refine WP.seq fun K1 hK1 => ?_
  refine WP.reg tabOk rfl ?_
  refine u_step (g_box rfl fun o2 hb2 hk2 => ?_)
  refine u_step (g_box rfl fun o3 hb3 hk3 => ?_)
  have hb2_3 := (hk3 _ (by omega)).trans hb2
  refine u_step (o_assign rfl ?_)
  refine u_nil ?_
  refine hK1 _ ?_
  refine WP.seq fun K4 hK4 => ?_
  refine WP.reg tabOk rfl ?_
  refine u_step (o_fa_loc rfl th24 rfl rfl th9 (by decide) hb2_3 ?_)
  refine u_step (o_ld_loc rfl th9 rfl hb2_3 rfl ?_)
  refine u_step (o_bin_str rfl (show _ = SV.d (.str []) from rfl) rfl ?_)
  refine u_step (o_move rfl ?_)
  apply u_guard
  · exact GC.f _
  · intro hg
    refine o_fa_loc rfl th30 rfl rfl th9 (by decide) hb3 ⟨rfl, rfl, rfl⟩
  apply u_guard
  · exact GC.f _
  · intro hg; try simp only [hg, cnd_true]; try simp only [hg, cnd_true, Bool.true_and]
    refine o_ld_loc rfl th9 rfl hb3 rfl ⟨rfl, rfl, rfl⟩
  apply u_guard
  · exact GC.f _
  · intro hg
    refine o_fa_loc rfl th24 rfl rfl th9 (by decide) hb2_3 ⟨rfl, rfl, rfl⟩
  apply u_guard
  · exact GC.f _
  · intro hg; try simp only [hg, cnd_true]; try simp only [hg, cnd_true, Bool.true_and]
    refine o_ld_loc rfl th9 rfl hb2_3 rfl ⟨rfl, rfl, rfl⟩
  apply u_guard
  · exact GC.f _
  · intro hg; try simp only [hg, cnd_true]; try simp only [hg, cnd_true, Bool.true_and]
    refine o_bin_str rfl rfl rfl ⟨rfl, rfl, rfl⟩
  refine u_step (o_pick_or rfl rfl rfl ?_)
  refine u_step (o_move rfl ?_)
  apply u_guard
  · exact GC.f _
  · intro hg
    refine o_fa_loc rfl th30 rfl rfl th3 (by decide) hb3 ⟨rfl, rfl, rfl⟩
  apply u_guard
  · exact GC.f _
  · intro hg; try simp only [hg, cnd_true]; try simp only [hg, cnd_true, Bool.true_and]
    refine o_ld_loc rfl th3 rfl hb3 rfl ⟨rfl, rfl, rfl⟩
  apply u_guard
  · exact GC.f _
  · intro hg; try simp only [hg, cnd_true]; try simp only [hg, cnd_true, Bool.true_and]
    refine o_bin_int rfl rfl (by decide) rfl ⟨rfl, rfl, rfl⟩
  apply u_guard
  · exact GC.f _
  · intro hg; try simp only [hg, cnd_true]; try simp only [hg, cnd_true, Bool.true_and]
    refine o_move rfl ⟨rfl, rfl, rfl⟩
  apply u_guard
  · exact GC.ct _ _
  · intro hg
    refine o_fa_loc rfl th30 rfl rfl th9 (by decide) hb3 ⟨rfl, rfl, rfl⟩
  apply u_guard
  · exact GC.ct _ _
  · intro hg; try simp only [hg, cnd_true]; try simp only [hg, cnd_true, Bool.true_and]
    refine o_ld_loc rfl th9 rfl hb3 rfl ⟨rfl, rfl, rfl⟩
  apply u_guard
  · exact GC.ct _ _
  · intro hg
    refine o_fa_loc rfl th24 rfl rfl th9 (by decide) hb2_3 ⟨rfl, rfl, rfl⟩
  apply u_guard
  · exact GC.ct _ _
  · intro hg; try simp only [hg, cnd_true]; try simp only [hg, cnd_true, Bool.true_and]
    refine o_ld_loc rfl th9 rfl hb2_3 rfl ⟨rfl, rfl, rfl⟩
  apply u_guard
  · exact GC.ct _ _
  · intro hg; try simp only [hg, cnd_true]; try simp only [hg, cnd_true, Bool.true_and]
    refine o_bin_str rfl rfl rfl ⟨rfl, rfl, rfl⟩
  apply u_guard
  · exact GC.f _
  · intro hg; try simp only [hg, cnd_true]; try simp only [hg, cnd_true, Bool.true_and]
    refine o_pick_and rfl rfl rfl ⟨rfl, rfl, rfl⟩
  refine u_step (o_pick_or rfl rfl rfl ?_)
  refine u_step (o_assign rfl ?_)
  refine u_nil ?_
  refine hK4 _ ?_
  refine WP.ret ?_
  refine ret_ok rfl ?_ (by omega) (fun t ht => (hk3 t (by omega)).trans ((hk2 t (by omega))))
  -- ret 1
  refine congrArg D.bool ?_
  simp only [ofCollV]
  rw [Bool.eq_iff_iff]
  simp only [Bool.or_eq_true, Bool.and_eq_true, decide_eq_true_eq, beq_iff_eq]

theorem fn61 : FnOk Tryz.prog 61 34 [4] (bodyOf Tryz.f61) := ⟨Tryz.f61, Tryz.func61, by kernel_rfl, by decide, by kernel_rfl, by kernel_rfl⟩
theorem s61 (f : Flt) (e : Etr) (okf : OkF f) (ok : OkE e) : PSpec Tryz.prog 61 [.d (encF f), .d (encE e)] (.d (.bool (atPathV f e))) := by
  refine PSpec.of fn61 (by simp) fun o nk => ?_
  refine WP.seq fun K1 hK1 => ?_
  refine WP.reg tabOk rfl ?_
  refine u_step (g_box rfl fun o2 hb2 hk2 => ?_)
  refine u_step (g_box rfl fun o3 hb3 hk3 => ?_)
  have hb2_3 := (hk3 _ (by omega)).trans hb2
  refine u_step (o_assign rfl ?_)
  refine u_nil ?_
  refine hK1 _ ?_
  refine WP.seq fun K4 hK4 => ?_
  refine WP.block ?_
  refine WP.seq fun K5 hK5 => ?_
  refine WP.reg tabOk rfl ?_
  refine u_step (o_fa_loc rfl th24 rfl rfl th22 (by decide) hb2_3 ?_)
  refine u_step (o_ld_loc rfl th22 rfl hb2_3 rfl ?_)
  refine u_step (o_len_sl rfl th22 rfl ?_)
  refine u_step (o_bin_int rfl rfl (by decide) rfl ?_)
  refine u_step (o_assign rfl ?_)
  refine u_nil ?_
  refine hK5 _ ?_
  refine WP.cond rfl (fun hc6 => ?_) (fun hc6 => ?_)
  ·
    try simp only [Q0, Q1, Q2, Q3, Q4, Q5, Q6, Q7, Q8, ge_iff_le, gt_iff_lt] at hc6
    refine WP.seq fun K7 hK7 => ?_
    refine WP.reg tabOk rfl ?_
    refine u_step (o_assign rfl ?_)
    refine u_nil ?_
    refine hK7 _ ?_
    refine WP.ret ?_
    refine ret_ok rfl ?_ (by omega) (fun t ht => (hk3 t (by omega)).trans ((hk2 t (by omega))))
    -- ret 1
    clear hK1 hK4 hK5 hK7
    refine congrArg D.bool ?_
    simp only [atPathV, List.length_map] at *
    grind
  ·
    try simp only [Q0, Q1, Q2, Q3, Q4, Q5, Q6, Q7, Q8, ge_iff_le, gt_iff_lt] at hc6
    refine WP.seq fun K8 hK8 => ?_
    refine WP.reg tabOk rfl ?_
    refine u_step (o_fa_loc rfl th30 rfl rfl th3 (by decide) hb3 ?_)
    refine u_step (o_ld_loc rfl th3 rfl hb3 rfl ?_)
    refine u_step (o_bin_int rfl rfl (by decide) rfl ?_)
    refine u_step (o_assign rfl ?_)
    refine u_nil ?_
    refine hK8 _ ?_
    refine WP.cond rfl (fun hc9 => ?_) (fun hc9 => ?_)
    ·
      try simp only [Q0, Q1, Q2, Q3, Q4, Q5, Q6, Q7, Q8, ge_iff_le, gt_iff_lt] at hc9
      refine WP.seq fun K10 hK10 => ?_
      refine WP.reg tabOk rfl ?_
      refine u_step (o_fa_loc rfl th30 rfl rfl th27 (by decide) hb3 ?_)
      refine u_step (o_ld_agg rfl th27 rfl hb3 rfl rfl rfl ?_)
      refine u_step (o_fa_loc rfl th24 rfl rfl th22 (by decide) hb2_3 ?_)
      refine u_step (o_ld_loc rfl th22 rfl hb2_3 rfl ?_)
      refine u_step (o_pcall (pv2 (v := e.doc) (s114 e.doc f.path ok.sd)) rfl ?_)
      refine u_step (o_moveV (v := .tup _) rfl ?_)
      refine u_step (o_ext rfl rfl ?_)
      refine u_step (o_ext rfl rfl ?_)
      refine u_step (g_alloc th27 rfl fun o11 hb11 hk11 => ?_)
      have hb2_11 := (hk11 _ (by omega)).trans hb2_3
      have hb3_11 := (hk11 _ (by omega)).trans hb3
      refine u_step0 (g_sta rfl (congrArg SV.d (encV_eq _)) th27 rfl hb11 (by simp [valCells]) fun o12 hb12 hk12 => ?_)
      have hb2_12 := (hk12 _ (by omega)).trans hb2_11
      have hb3_12 := (hk12 _ (by omega)).trans hb3_11
      refine u_step (o_assign rfl ?_)
      refine u_nil ?_
      refine hK10 _ ?_
      refine WP.seq fun K13 hK13 => ?_
      refine WP.reg tabOk rfl ?_
      refine u_step (o_move rfl ?_)
      refine u_step (o_assign rfl ?_)
      refine u_nil ?_
      refine hK13 _ ?_
      refine WP.ret ?_
      refine ret_ok rfl ?_ (by omega) (fun t ht => (hk12 t (by omega)).trans ((hk11 t (by omega)).trans ((hk3 t (by omega)).trans ((hk2 t (by omega))))))
      -- ret 2
      clear hK1 hK4 hK5 hK8 hK10 hK13
      refine congrArg D.bool ?_
      simp only [atPathV, List.length_map] at *
      grind
    ·
      try simp only [Q0, Q1, Q2, Q3, Q4, Q5, Q6, Q7, Q8, ge_iff_le, gt_iff_lt] at hc9
      refine WP.seq fun K14 hK14 => ?_
      refine WP.reg tabOk rfl ?_
      refine u_step (o_fa_loc rfl th30 rfl rfl th3 (by decide) hb3 ?_)
      refine u_step (o_ld_loc rfl th3 rfl hb3 rfl ?_)
      refine u_step (o_bin_int rfl rfl (by decide) rfl ?_)
      refine u_step (o_assign rfl ?_)
      refine u_nil ?_
      refine hK14 _ ?_
      refine WP.cond rfl (fun hc15 => ?_) (fun hc15 => ?_)
      ·
        try simp only [Q0, Q1, Q2, Q3, Q4, Q5, Q6, Q7, Q8, ge_iff_le, gt_iff_lt] at hc15
        refine WP.seq fun K16 hK16 => ?_
        refine WP.reg tabOk rfl ?_
        refine u_step (o_fa_loc rfl th30 rfl rfl th28 (by decide) hb3 ?_)
        refine u_step (o_ld_loc rfl th28 rfl hb3 rfl ?_)
        refine u_step (o_fa_loc rfl th24 rfl rfl th22 (by decide) hb2_3 ?_)
        refine u_step (o_ld_loc rfl th22 rfl hb2_3 rfl ?_)
        refine u_step (o_pcall (s74 e.deltas f.path) rfl ?_)
        refine u_step (o_assign rfl ?_)
        refine u_nil ?_
        refine hK16 _ ?_
        refine WP.ret ?_
        refine ret_ok rfl ?_ (by omega) (fun t ht => (hk3 t (by omega)).trans ((hk2 t (by omega))))
        -- ret 3
        clear hK1 hK4 hK5 hK8 hK14 hK16
        refine congrArg D.bool ?_
        simp only [atPathV, List.length_map] at *
        grind
      ·
        try simp only [Q0, Q1, Q2, Q3, Q4, Q5, Q6, Q7, Q8, ge_iff_le, gt_iff_lt] at hc15
        refine WP.skip ?_
        refine hK4 _ ?_
        refine WP.seq fun K17 hK17 => ?_
        refine WP.reg tabOk rfl ?_
        refine u_step (o_assign rfl ?_)
        refine u_nil ?_
        refine hK17 _ ?_
        refine WP.ret ?_
        refine ret_ok rfl ?_ (by omega) (fun t ht => (hk3 t (by omega)).trans ((hk2 t (by omega))))
        -- ret 4
        clear hK1 hK4 hK5 hK8 hK14 hK17
        refine congrArg D.bool ?_
        simp only [atPathV, List.length_map] at *
        grind

theorem fn17 : FnOk Tryz.prog 17 36 [4] (bodyOf Tryz.f17) := ⟨Tryz.f17, Tryz.func17, by kernel_rfl, by decide, by kernel_rfl, by kernel_rfl⟩
theorem s17 (f : Flt) (e : Etr) (okf : OkF f) (ok : OkE e) : PSpec Tryz.prog 17 [.d (encF f), .d (encE e)] (.d (.bool (matchV f e))) := by
  refine PSpec.of fn17 (by simp) fun o nk => ?_
  refine WP.seq fun K1 hK1 => ?_
  refine WP.reg tabOk rfl ?_
  refine u_step (g_box rfl fun o2 hb2 hk2 => ?_)
  refine u_step (g_box rfl fun o3 hb3 hk3 => ?_)
  have hb2_3 := (hk3 _ (by omega)).trans hb2
  refine u_step (o_assign rfl ?_)
  refine u_nil ?_
  refine hK1 _ ?_
  refine WP.seq fun K4 hK4 => ?_
  refine WP.seq fun K5 hK5 => ?_
  refine WP.drw tabOk (by kernel_rfl) rfl (by kernel_rfl) ?_
  refine d_step (o_ld_agg rfl th24 rfl hb2_3 rfl rfl rfl ⟨rfl, rfl, rfl⟩) ?_
  refine d_step (o_ld_agg rfl th30 rfl hb3 rfl rfl rfl ⟨rfl, rfl, rfl⟩) ?_
  refine d_step (o_pcall (s59 f e okf ok) rfl ⟨rfl, rfl, rfl⟩) ?_
  refine d_step (o_not rfl ⟨rfl, rfl, rfl⟩) ?_
  refine d_step (o_move rfl ⟨rfl, rfl, rfl⟩) ?_
  apply d_guard
  · exact GC.f _
  · intro hg
    refine o_fa_loc rfl th30 rfl rfl th3 (by decide) hb3 ⟨rfl, rfl, rfl⟩
  apply d_guard
  · exact GC.f _
  · intro hg; try simp only [hg, cnd_true]; try simp only [hg, cnd_true, Bool.true_and]
    refine o_ld_loc rfl th3 rfl hb3 rfl ⟨rfl, rfl, rfl⟩
  apply d_guard
  · exact GC.f _
  · intro hg; try simp only [hg, cnd_true]; try simp only [hg, cnd_true, Bool.true_and]
    refine o_bin_int rfl rfl (by decide) rfl ⟨rfl, rfl, rfl⟩
  refine d_step (o_pick_or rfl rfl rfl ⟨rfl, rfl, rfl⟩) ?_
  refine d_step (o_move rfl ⟨rfl, rfl, rfl⟩) ?_
  apply d_guard
  · exact GC.f _
  · intro hg
    refine o_fa_loc rfl th24 rfl rfl th3 (by decide) hb2_3 ⟨rfl, rfl, rfl⟩
  apply d_guard
  · exact GC.f _
  · intro hg; try simp only [hg, cnd_true]; try simp only [hg, cnd_true, Bool.true_and]
    refine o_ld_loc rfl th3 rfl hb2_3 rfl ⟨rfl, rfl, rfl⟩
  apply d_guard
  · exact GC.f _
  · intro hg; try simp only [hg, cnd_true]; try simp only [hg, cnd_true, Bool.true_and]
    refine o_bin_int rfl rfl (by decide) rfl ⟨rfl, rfl, rfl⟩
  apply d_guard
  · exact GC.f _
  · intro hg; try simp only [hg, cnd_true]; try simp only [hg, cnd_true, Bool.true_and]
    refine o_move rfl ⟨rfl, rfl, rfl⟩
  apply d_guard
  · exact GC.ct _ _
  · intro hg
    refine o_fa_loc rfl th24 rfl rfl th3 (by decide) hb2_3 ⟨rfl, rfl, rfl⟩
  apply d_guard
  · exact GC.ct _ _
  · intro hg; try simp only [hg, cnd_true]; try simp only [hg, cnd_true, Bool.true_and]
    refine o_ld_loc rfl th3 rfl hb2_3 rfl ⟨rfl, rfl, rfl⟩
  apply d_guard
  · exact GC.ct _ _
  · intro hg
    refine o_fa_loc rfl th30 rfl rfl th3 (by decide) hb3 ⟨rfl, rfl, rfl⟩
  apply d_guard
  · exact GC.ct _ _
  · intro hg; try simp only [hg, cnd_true]; try simp only [hg, cnd_true, Bool.true_and]
    refine o_ld_loc rfl th3 rfl hb3 rfl ⟨rfl, rfl, rfl⟩
  apply d_guard
  · exact GC.ct _ _
  · intro hg; try simp only [hg, cnd_true]; try simp only [hg, cnd_true, Bool.true_and]
    have hg2 := hg; try simp only [Q0, Q1, Q2, Q3, Q4, Q5, Q6, Q9, Qa, Qb, Qc, Qd] at hg2
    refine o_bin_sh rfl rfl (shl1 (by have hke := hg2; (have hme : mayE e = true := by simp_all); have := mayE_kind hme; omega) (by have hke := hg2; (have hme : mayE e = true := by simp_all); have := mayE_kind hme; omega)) ⟨rfl, rfl, rfl⟩
  apply d_guard
  · exact GC.ct _ _
  · intro hg; try simp only [hg, cnd_true]; try simp only [hg, cnd_true, Bool.true_and]
    refine o_bin_int rfl rfl (by decide) rfl ⟨rfl, rfl, rfl⟩
  apply d_guard
  · exact GC.ct _ _
  · intro hg; try simp only [hg, cnd_true]; try simp only [hg, cnd_true, Bool.true_and]
    refine o_bin_int rfl rfl (by decide) rfl ⟨rfl, rfl, rfl⟩
  apply d_guard
  · exact GC.f _
  · intro hg; try simp only [hg, cnd_true]; try simp only [hg, cnd_true, Bool.true_and]
    refine o_pick_and rfl rfl rfl ⟨rfl, rfl, rfl⟩
  refine d_step (o_pick_or rfl rfl rfl ⟨rfl, rfl, rfl⟩) ?_
  refine d_nil ?_
  refine hK5 _ ?_
  refine WP.cond rfl (fun hc6 => ?_) (fun hc6 => ?_)
  ·
    try simp only [Q0, Q1, Q2, Q3, Q4, Q5, Q6, Q7, Q8, ge_iff_le, gt_iff_lt] at hc6
    refine WP.seq fun K7 hK7 => ?_
    refine WP.reg tabOk rfl ?_
    refine u_step (o_assign rfl ?_)
    refine u_nil ?_
    refine hK7 _ ?_
    refine WP.ret ?_
    refine ret_ok rfl ?_ (by omega) (fun t ht => (hk3 t (by omega)).trans ((hk2 t (by omega))))
    -- ret 1
    clear hK1 hK4 hK5 hK7
    refine congrArg D.bool ?_
    have ha : mayF f = true → mayE e = true → (bitsOf .and .i64 f.kinds ((2 ^ e.kind.toNat : Nat) : Int) == 0) = !kindIn f.kinds e.kind := fun h1 h2 => by have q1 := mayF_kinds h1; have q2 := mayE_kind h2; exact and_kind q1.1 q1.2 (by omega) (by omega)
    simp only [matchV] at *
    grind
  ·
    try simp only [Q0, Q1, Q2, Q3, Q4, Q5, Q6, Q7, Q8, ge_iff_le, gt_iff_lt] at hc6
    refine WP.skip ?_
    refine hK4 _ ?_
    refine WP.seq fun K8 hK8 => ?_
    refine WP.reg tabOk rfl ?_
    refine u_step (o_ld_agg rfl th24 rfl hb2_3 rfl rfl rfl ?_)
    refine u_step (o_ld_agg rfl th30 rfl hb3 rfl rfl rfl ?_)
    refine u_step (o_pcall (s60 f e) rfl ?_)
    refine u_step (o_move rfl ?_)
    apply u_guard
    · exact GC.t _
    · intro hg
      refine o_ld_agg rfl th24 rfl hb2_3 rfl rfl rfl ⟨rfl, rfl, rfl⟩
    apply u_guard
    · exact GC.t _
    · intro hg
      refine o_ld_agg rfl th30 rfl hb3 rfl rfl rfl ⟨rfl, rfl, rfl⟩
    apply u_guard
    · exact GC.t _
    · intro hg; try simp only [hg, cnd_true]; try simp only [hg, cnd_true, Bool.true_and]
      refine o_pcall (s61 f e okf ok) rfl ⟨rfl, rfl, rfl⟩
    refine u_step (o_pick_and rfl rfl rfl ?_)
    refine u_step (o_assign rfl ?_)
    refine u_nil ?_
    refine hK8 _ ?_
    refine WP.ret ?_
    refine ret_ok rfl ?_ (by omega) (fun t ht => (hk3 t (by omega)).trans ((hk2 t (by omega))))
    -- ret 2
    clear hK1 hK4 hK5 hK8
    refine congrArg D.bool ?_
    have ha : mayF f = true → mayE e = true → (bitsOf .and .i64 f.kinds ((2 ^ e.kind.toNat : Nat) : Int) == 0) = !kindIn f.kinds e.kind := fun h1 h2 => by have q1 := mayF_kinds h1; have q2 := mayE_kind h2; exact and_kind q1.1 q1.2 (by omega) (by omega)
    simp only [matchV] at *
    grind

theorem fn19 : FnOk Tryz.prog 19 32 [4] (bodyOf Tryz.f19) := ⟨Tryz.f19, Tryz.func19, by kernel_rfl, by decide, by kernel_rfl, by kernel_rfl⟩
theorem s19 (f : Flt) (e : Etr) (okf : OkF f) (ok : OkE e) : PSpec Tryz.prog 19 [.d (encF f), .d (encE e)] (.d (.bool (endsV f e))) := by
  refine PSpec.of fn19 (by simp) fun o nk => ?_
  refine WP.seq fun K1 hK1 => ?_
  refine WP.reg tabOk rfl ?_
  refine u_step (g_box rfl fun o2 hb2 hk2 => ?_)
  refine u_step (g_box rfl fun o3 hb3 hk3 => ?_)
  have hb2_3 := (hk3 _ (by omega)).trans hb2
  refine u_step (o_assign rfl ?_)
  refine u_nil ?_
  refine hK1 _ ?_
  refine WP.seq fun K4 hK4 => ?_
  refine WP.reg tabOk rfl ?_
  refine u_step (o_fa_loc rfl th30 rfl rfl th3 (by decide) hb3 ?_)
  refine u_step (o_ld_loc rfl th3 rfl hb3 rfl ?_)
  refine u_step (o_bin_int rfl rfl (by decide) rfl ?_)
  refine u_step (o_move rfl ?_)
  apply u_guard
  · exact GC.f _
  · intro hg
    refine o_fa_loc rfl th30 rfl rfl th3 (by decide) hb3 ⟨rfl, rfl, rfl⟩
  apply u_guard
  · exact GC.f _
  · intro hg; try simp only [hg, cnd_true]; try simp only [hg, cnd_true, Bool.true_and]
    refine o_ld_loc rfl th3 rfl hb3 rfl ⟨rfl, rfl, rfl⟩
  apply u_guard
  · exact GC.f _
  · intro hg; try simp only [hg, cnd_true]; try simp only [hg, cnd_true, Bool.true_and]
    refine o_bin_int rfl rfl (by decide) rfl ⟨rfl, rfl, rfl⟩
  refine u_step (o_pick_or rfl rfl rfl ?_)
  refine u_step (o_assign rfl ?_)
  refine u_nil ?_
  refine hK4 _ ?_
  refine WP.seq fun K5 hK5 => ?_
  refine WP.reg tabOk rfl ?_
  refine u_step (o_ld_agg rfl th24 rfl hb2_3 rfl rfl rfl ?_)
  refine u_step (o_ld_agg rfl th30 rfl hb3 rfl rfl rfl ?_)
  refine u_step (o_pcall (s59 f e okf ok) rfl ?_)
  refine u_step (o_move rfl ?_)
  apply u_guard
  · exact GC.t _
  · intro hg
    refine o_fa_loc rfl th24 rfl rfl th9 (by decide) hb2_3 ⟨rfl, rfl, rfl⟩
  apply u_guard
  · exact GC.t _
  · intro hg; try simp only [hg, cnd_true]; try simp only [hg, cnd_true, Bool.true_and]
    refine o_ld_loc rfl th9 rfl hb2_3 rfl ⟨rfl, rfl, rfl⟩
  apply u_guard
  · exact GC.t _
  · intro hg; try simp only [hg, cnd_true]; try simp only [hg, cnd_true, Bool.true_and]
    refine o_bin_str rfl (show _ = SV.d (.str []) from rfl) rfl ⟨rfl, rfl, rfl⟩
  refine u_step (o_pick_and rfl rfl rfl ?_)
  refine u_step (o_move rfl ?_)
  apply u_guard
  · exact GC.t _
  · intro hg
    refine o_move rfl ⟨rfl, rfl, rfl⟩
  refine u_step (o_pick_and rfl rfl rfl ?_)
  refine u_step (o_move rfl ?_)
  apply u_guard
  · exact GC.t _
  · intro hg
    refine o_fa_loc rfl th30 rfl rfl th9 (by decide) hb3 ⟨rfl, rfl, rfl⟩
  apply u_guard
  · exact GC.t _
  · intro hg; try simp only [hg, cnd_true]; try simp only [hg, cnd_true, Bool.true_and]
    refine o_ld_loc rfl th9 rfl hb3 rfl ⟨rfl, rfl, rfl⟩
  apply u_guard
  · exact GC.t _
  · intro hg
    refine o_fa_loc rfl th24 rfl rfl th9 (by decide) hb2_3 ⟨rfl, rfl, rfl⟩
  apply u_guard
  · exact GC.t _
  · intro hg; try simp only [hg, cnd_true]; try simp only [hg, cnd_true, Bool.true_and]
    refine o_ld_loc rfl th9 rfl hb2_3 rfl ⟨rfl, rfl, rfl⟩
  apply u_guard
  · exact GC.t _
  · intro hg; try simp only [hg, cnd_true]; try simp only [hg, cnd_true, Bool.true_and]
    refine o_bin_str rfl rfl rfl ⟨rfl, rfl, rfl⟩
  refine u_step (o_pick_and rfl rfl rfl ?_)
  refine u_step (o_assign rfl ?_)
  refine u_nil ?_
  refine hK5 _ ?_
  refine WP.ret ?_
  refine ret_ok rfl ?_ (by omega) (fun t ht => (hk3 t (by omega)).trans ((hk2 t (by omega))))
  -- ret 1
  clear hK1 hK4 hK5
  refine congrArg D.bool ?_
  simp only [endsV] at *
  grind

theorem fn20 : FnOk Tryz.prog 20 33 [4] (bodyOf Tryz.f20) := ⟨Tryz.f20, Tryz.func20, by kernel_rfl, by decide, by kernel_rfl, by kernel_rfl⟩
theorem s20 (f : Flt) (e : Etr) (ok : OkE e) : PSpec Tryz.prog 20 [.d (encF f), .d (encE e)] (.d (.bool (endsV f e))) := by
  refine PSpec.of fn20 (by simp) fun o nk => ?_
  refine WP.seq fun K1 hK1 => ?_
  refine WP.reg tabOk rfl ?_
  refine u_step (g_box rfl fun o2 hb2 hk2 => ?_)
  refine u_step (g_box rfl fun o3 hb3 hk3 => ?_)
  have hb2_3 := (hk3 _ (by omega)).trans hb2
  refine u_step (o_assign rfl ?_)
  refine u_nil ?_
  refine hK1 _ ?_
  refine WP.seq fun K4 hK4 => ?_
  refine WP.reg tabOk rfl ?_
  refine u_step (o_ld_agg rfl th24 rfl hb2_3 rfl rfl rfl ?_)
  refine u_step (o_pcall (s16 f) rfl ?_)
  refine u_step (o_move rfl ?_)
  apply u_guard
  · exact GC.t _
  · intro hg
    refine o_ld_agg rfl th30 rfl hb3 rfl rfl rfl ⟨rfl, rfl, rfl⟩
  apply u_guard
  · exact GC.t _
  · intro hg; try simp only [hg, cnd_true]; try simp only [hg, cnd_true, Bool.true_and]
    refine o_pcall (s24 e ok) rfl ⟨rfl, rfl, rfl⟩
  refine u_step (o_pick_and rfl rfl rfl ?_)
  refine u_step (o_move rfl ?_)
  apply u_guard
  · exact GC.t _
  · intro hg
    refine o_fa_loc rfl th24 rfl rfl th9 (by decide) hb2_3 ⟨rfl, rfl, rfl⟩
  apply u_guard
  · exact GC.t _
  · intro hg; try simp only [hg, cnd_true]; try simp only [hg, cnd_true, Bool.true_and]
    refine o_ld_loc rfl th9 rfl hb2_3 rfl ⟨rfl, rfl, rfl⟩
  apply u_guard
  · exact GC.t _
  · intro hg; try simp only [hg, cnd_true]; try simp only [hg, cnd_true, Bool.true_and]
    refine o_bin_str rfl (show _ = SV.d (.str []) from rfl) rfl ⟨rfl, rfl, rfl⟩
  refine u_step (o_pick_and rfl rfl rfl ?_)
  refine u_step (o_move rfl ?_)
  apply u_guard
  · exact GC.t _
  · intro hg
    refine o_fa_loc rfl th24 rfl rfl th9 (by decide) hb2_3 ⟨rfl, rfl, rfl⟩
  apply u_guard
  · exact GC.t _
  · intro hg; try simp only [hg, cnd_true]; try simp only [hg, cnd_true, Bool.true_and]
    refine o_ld_loc rfl th9 rfl hb2_3 rfl ⟨rfl, rfl, rfl⟩
  apply u_guard
  · exact GC.t _
  · intro hg
    refine o_fa_loc rfl th30 rfl rfl th9 (by decide) hb3 ⟨rfl, rfl, rfl⟩
  apply u_guard
  · exact GC.t _
  · intro hg; try simp only [hg, cnd_true]; try simp only [hg, cnd_true, Bool.true_and]
    refine o_ld_loc rfl th9 rfl hb3 rfl ⟨rfl, rfl, rfl⟩
  apply u_guard
  · exact GC.t _
  · intro hg; try simp only [hg, cnd_true]; try simp only [hg, cnd_true, Bool.true_and]
    refine o_bin_str rfl rfl rfl ⟨rfl, rfl, rfl⟩
  refine u_step (o_pick_and rfl rfl rfl ?_)
  refine u_step (o_move rfl ?_)
  apply u_guard
  · exact GC.t _
  · intro hg
    refine o_fa_loc rfl th30 rfl rfl th3 (by decide) hb3 ⟨rfl, rfl, rfl⟩
  apply u_guard
  · exact GC.t _
  · intro hg; try simp only [hg, cnd_true]; try simp only [hg, cnd_true, Bool.true_and]
    refine o_ld_loc rfl th3 rfl hb3 rfl ⟨rfl, rfl, rfl⟩
  apply u_guard
  · exact GC.t _
  · intro hg; try simp only [hg, cnd_true]; try simp only [hg, cnd_true, Bool.true_and]
    refine o_bin_int rfl rfl (by decide) rfl ⟨rfl, rfl, rfl⟩
  apply u_guard
  · exact GC.t _
  · intro hg; try simp only [hg, cnd_true]; try simp only [hg, cnd_true, Bool.true_and]
    refine o_move rfl ⟨rfl, rfl, rfl⟩
  apply u_guard
  · exact GC.cf _ _
  · intro hg
    refine o_fa_loc rfl th30 rfl rfl th3 (by decide) hb3 ⟨rfl, rfl, rfl⟩
  apply u_guard
  · exact GC.cf _ _
  · intro hg; try simp only [hg, cnd_true]; try simp only [hg, cnd_true, Bool.true_and]
    refine o_ld_loc rfl th3 rfl hb3 rfl ⟨rfl, rfl, rfl⟩
  apply u_guard
  · exact GC.cf _ _
  · intro hg; try simp only [hg, cnd_true]; try simp only [hg, cnd_true, Bool.true_and]
    refine o_bin_int rfl rfl (by decide) rfl ⟨rfl, rfl, rfl⟩
  apply u_guard
  · exact GC.t _
  · intro hg; try simp only [hg, cnd_true]; try simp only [hg, cnd_true, Bool.true_and]
    refine o_pick_or rfl rfl rfl ⟨rfl, rfl, rfl⟩
  refine u_step (o_pick_and rfl rfl rfl ?_)
  refine u_step (o_assign rfl ?_)
  refine u_nil ?_
  refine hK4 _ ?_
  refine WP.ret ?_
  refine ret_ok rfl ?_ (by omega) (fun t ht => (hk3 t (by omega)).trans ((hk2 t (by omega))))
  -- ret 1
  clear hK1 hK4
  refine congrArg D.bool ?_
  have hc : decide (f.coll = e.coll) = decide (e.coll = f.coll) := by rw [Bool.eq_iff_iff]; simp only [decide_eq_true_eq]; exact eq_comm
  simp only [endsV] at *
  grind

theorem fn18 : FnOk Tryz.prog 18 103 [4] (bodyOf Tryz.f18) := ⟨Tryz.f18, Tryz.func18, by kernel_rfl, by decide, by kernel_rfl, by kernel_rfl⟩
theorem s18 (f : Flt) (e : Etr) (ok : OkE e) : PSpec Tryz.prog 18 [.d (encF f), .d (encE e)] (.d (.bool (matchV f e))) := by
  refine PSpec.bd fun hbd => ?_
  have hx : e.deltas.length ≤ 9223372036854775807 := ent_bd hbd.2.1
  refine PSpec.of fn18 (by simp) fun o nk => ?_
  refine WP.seq fun K1 hK1 => ?_
  refine WP.reg tabOk rfl ?_
  refine u_step (g_box rfl fun o2 hb2 hk2 => ?_)
  refine u_step (g_box rfl fun o3 hb3 hk3 => ?_)
  have hb2_3 := (hk3 _ (by omega)).trans hb2
  refine u_step (o_assign rfl ?_)
  refine u_nil ?_
  refine hK1 _ ?_
  refine WP.seq fun K4 hK4 => ?_
  refine WP.seq fun K5 hK5 => ?_
  refine WP.reg tabOk rfl ?_
  refine u_step (o_ld_agg rfl th24 rfl hb2_3 rfl rfl rfl ?_)
  refine u_step (o_pcall (s16 f) rfl ?_)
  refine u_step (o_not rfl ?_)
  refine u_step (o_move rfl ?_)
  apply u_guard
  · exact GC.f _
  · intro hg
    refine o_ld_agg rfl th30 rfl hb3 rfl rfl rfl ⟨rfl, rfl, rfl⟩
  apply u_guard
  · exact GC.f _
  · intro hg; try simp only [hg, cnd_true]; try simp only [hg, cnd_true, Bool.true_and]
    refine o_pcall (s24 e ok) rfl ⟨rfl, rfl, rfl⟩
  apply u_guard
  · exact GC.f _
  · intro hg; try simp only [hg, cnd_true]; try simp only [hg, cnd_true, Bool.true_and]
    refine o_not rfl ⟨rfl, rfl, rfl⟩
  refine u_step (o_pick_or rfl rfl rfl ?_)
  refine u_step (o_move rfl ?_)
  apply u_guard
  · exact GC.f _
  · intro hg
    refine o_fa_loc rfl th30 rfl rfl th3 (by decide) hb3 ⟨rfl, rfl, rfl⟩
  apply u_guard
  · exact GC.f _
  · intro hg; try simp only [hg, cnd_true]; try simp only [hg, cnd_true, Bool.true_and]
    refine o_ld_loc rfl th3 rfl hb3 rfl ⟨rfl, rfl, rfl⟩
  apply u_guard
  · exact GC.f _
  · intro hg; try simp only [hg, cnd_true]; try simp only [hg, cnd_true, Bool.true_and]
    refine o_bin_int rfl rfl (by decide) rfl ⟨rfl, rfl, rfl⟩
  refine u_step (o_pick_or rfl rfl rfl ?_)
  refine u_nil ?_
  refine hK5 _ ?_
  refine WP.cond rfl (fun hc6 => ?_) (fun hc6 => ?_)
  ·
    try simp only [Q0, Q1, Q2, Q3, Q4, Q5, Q6, Q7, Q8, ge_iff_le, gt_iff_lt] at hc6
    refine WP.seq fun K7 hK7 => ?_
    refine WP.reg tabOk rfl ?_
    refine u_step (o_assign rfl ?_)
    refine u_nil ?_
    refine hK7 _ ?_
    refine WP.ret ?_
    refine ret_ok rfl ?_ (by omega) (fun t ht => (hk3 t (by omega)).trans ((hk2 t (by omega))))
    -- ret 1
    clear hK1 hK4 hK5 hK7
    refine congrArg D.bool ?_
    have hl := hc6
    simp only [matchV]
    grind
  ·
    try simp only [Q0, Q1, Q2, Q3, Q4, Q5, Q6, Q7, Q8, ge_iff_le, gt_iff_lt] at hc6
    have hq3 : mayF f = true ∧ mayE e = true ∧ ¬ e.kind = 1 := by simpa [and_assoc] using hc6
    obtain ⟨hmf, hme, hk1⟩ := hq3
    have hke := mayE_kind hme
    have hks := mayF_kinds hmf
    refine WP.skip ?_
    refine hK4 _ ?_
    refine WP.seq fun K8 hK8 => ?_
    refine WP.seq fun K9 hK9 => ?_
    refine WP.drw tabOk (by kernel_rfl) rfl (by kernel_rfl) ?_
    refine d_step (o_fa_loc rfl th24 rfl rfl th3 (by decide) hb2_3 ⟨rfl, rfl, rfl⟩) ?_
    refine d_step (o_ld_loc rfl th3 rfl hb2_3 rfl ⟨rfl, rfl, rfl⟩) ?_
    refine d_step (o_bin_int rfl rfl (by decide) rfl ⟨rfl, rfl, rfl⟩) ?_
    refine d_step (o_move rfl ⟨rfl, rfl, rfl⟩) ?_
    apply d_guard
    · exact GC.t _
    · intro hg
      refine o_fa_loc rfl th24 rfl rfl th3 (by decide) hb2_3 ⟨rfl, rfl, rfl⟩
    apply d_guard
    · exact GC.t _
    · intro hg; try simp only [hg, cnd_true]; try simp only [hg, cnd_true, Bool.true_and]
      refine o_ld_loc rfl th3 rfl hb2_3 rfl ⟨rfl, rfl, rfl⟩
    apply d_guard
    · exact GC.t _
    · intro hg
      refine o_fa_loc rfl th30 rfl rfl th3 (by decide) hb3 ⟨rfl, rfl, rfl⟩
    apply d_guard
    · exact GC.t _
    · intro hg; try simp only [hg, cnd_true]; try simp only [hg, cnd_true, Bool.true_and]
      refine o_ld_loc rfl th3 rfl hb3 rfl ⟨rfl, rfl, rfl⟩
    apply d_guard
    · exact GC.t _
    · intro hg; try simp only [hg, cnd_true]; try simp only [hg, cnd_true, Bool.true_and]
      have hg2 := hg; try simp only [Q0, Q1, Q2, Q3, Q4, Q5, Q6, Q9, Qa, Qb, Qc, Qd] at hg2
      refine o_bin_sh rfl rfl (shl1 (by omega) (by omega)) ⟨rfl, rfl, rfl⟩
    apply d_guard
    · exact GC.t _
    · intro hg; try simp only [hg, cnd_true]; try simp only [hg, cnd_true, Bool.true_and]
      have hg2 := hg; try simp only [Q0, Q1, Q2, Q3, Q4, Q5, Q6, Q9, Qa, Qb, Qc, Qd] at hg2
      refine o_bin_int rfl rfl (by decide) (by show (if _ then _ else _) = _; rw [if_neg (by have := Nat.two_pow_pos e.kind.toNat; omega)]) ⟨rfl, rfl, rfl⟩
    apply d_guard
    · exact GC.t _
    · intro hg; try simp only [hg, cnd_true]; try simp only [hg, cnd_true, Bool.true_and]
      refine o_bin_int rfl rfl (by decide) rfl ⟨rfl, rfl, rfl⟩
    apply d_guard
    · exact GC.t _
    · intro hg; try simp only [hg, cnd_true]; try simp only [hg, cnd_true, Bool.true_and]
      refine o_bin_int rfl rfl (by decide) rfl ⟨rfl, rfl, rfl⟩
    refine d_step (o_pick_and rfl rfl rfl ⟨rfl, rfl, rfl⟩) ?_
    refine d_nil ?_
    refine hK9 _ ?_
    refine WP.cond rfl (fun hc10 => ?_) (fun hc10 => ?_)
    ·
      try simp only [Q0, Q1, Q2, Q3, Q4, Q5, Q6, Q7, Q8, ge_iff_le, gt_iff_lt] at hc10
      refine WP.seq fun K11 hK11 => ?_
      refine WP.reg tabOk rfl ?_
      refine u_step (o_assign rfl ?_)
      refine u_nil ?_
      refine hK11 _ ?_
      refine WP.ret ?_
      refine ret_ok rfl ?_ (by omega) (fun t ht => (hk3 t (by omega)).trans ((hk2 t (by omega))))
      -- ret 2
      clear hK1 hK4 hK5 hK8 hK9 hK11
      refine congrArg D.bool ?_
      have hl := hc10
      rw [quo_kind hks.1 hks.2] at hl
      simp only [matchV, kindIn]
      grind
    ·
      try simp only [Q0, Q1, Q2, Q3, Q4, Q5, Q6, Q7, Q8, ge_iff_le, gt_iff_lt] at hc10
      have hkn : (decide (f.kinds = 0) || kindIn f.kinds e.kind) = true := by
        have hl := hc10
        rw [quo_kind hks.1 hks.2] at hl
        simp only [kindIn]
        grind
      refine WP.skip ?_
      refine hK8 _ ?_
      refine WP.seq fun K12 hK12 => ?_
      refine WP.seq fun K13 hK13 => ?_
      refine WP.reg tabOk rfl ?_
      refine u_step (o_fa_loc rfl th24 rfl rfl th9 (by decide) hb2_3 ?_)
      refine u_step (o_ld_loc rfl th9 rfl hb2_3 rfl ?_)
      refine u_step (o_bin_str rfl (show _ = SV.d (.str []) from rfl) rfl ?_)
      refine u_step (o_move rfl ?_)
      apply u_guard
      · exact GC.t _
      · intro hg
        refine o_fa_loc rfl th30 rfl rfl th9 (by decide) hb3 ⟨rfl, rfl, rfl⟩
      apply u_guard
      · exact GC.t _
      · intro hg; try simp only [hg, cnd_true]; try simp only [hg, cnd_true, Bool.true_and]
        refine o_ld_loc rfl th9 rfl hb3 rfl ⟨rfl, rfl, rfl⟩
      apply u_guard
      · exact GC.t _
      · intro hg
        refine o_fa_loc rfl th24 rfl rfl th9 (by decide) hb2_3 ⟨rfl, rfl, rfl⟩
      apply u_guard
      · exact GC.t _
      · intro hg; try simp only [hg, cnd_true]; try simp only [hg, cnd_true, Bool.true_and]
        refine o_ld_loc rfl th9 rfl hb2_3 rfl ⟨rfl, rfl, rfl⟩
      apply u_guard
      · exact GC.t _
      · intro hg; try simp only [hg, cnd_true]; try simp only [hg, cnd_true, Bool.true_and]
        refine o_bin_str rfl rfl rfl ⟨rfl, rfl, rfl⟩
      refine u_step (o_pick_and rfl rfl rfl ?_)
      refine u_step (o_move rfl ?_)
      apply u_guard
      · exact GC.t _
      · intro hg
        refine o_fa_loc rfl th30 rfl rfl th3 (by decide) hb3 ⟨rfl, rfl, rfl⟩
      apply u_guard
      · exact GC.t _
      · intro hg; try simp only [hg, cnd_true]; try simp only [hg, cnd_true, Bool.true_and]
        refine o_ld_loc rfl th3 rfl hb3 rfl ⟨rfl, rfl, rfl⟩
      apply u_guard
      · exact GC.t _
      · intro hg; try simp only [hg, cnd_true]; try simp only [hg, cnd_true, Bool.true_and]
        refine o_bin_int rfl rfl (by decide) rfl ⟨rfl, rfl, rfl⟩
      apply u_guard
      · exact GC.t _
      · intro hg; try simp only [hg, cnd_true]; try simp only [hg, cnd_true, Bool.true_and]
        refine o_move rfl ⟨rfl, rfl, rfl⟩
      apply u_guard
      · exact GC.ct _ _
      · intro hg
        refine o_fa_loc rfl th30 rfl rfl th9 (by decide) hb3 ⟨rfl, rfl, rfl⟩
      apply u_guard
      · exact GC.ct _ _
      · intro hg; try simp only [hg, cnd_true]; try simp only [hg, cnd_true, Bool.true_and]
        refine o_ld_loc rfl th9 rfl hb3 rfl ⟨rfl, rfl, rfl⟩
      apply u_guard
      · exact GC.ct _ _
      · intro hg
        refine o_fa_loc rfl th24 rfl rfl th9 (by decide) hb2_3 ⟨rfl, rfl, rfl⟩
      apply u_guard
      · exact GC.ct _ _
      · intro hg; try simp only [hg, cnd_true]; try simp only [hg, cnd_true, Bool.true_and]
        refine o_ld_loc rfl th9 rfl hb2_3 rfl ⟨rfl, rfl, rfl⟩
      apply u_guard
      · exact GC.ct _ _
      · intro hg; try simp only [hg, cnd_true]; try simp only [hg, cnd_true, Bool.true_and]
        refine o_bin_str rfl rfl rfl ⟨rfl, rfl, rfl⟩
      apply u_guard
      · exact GC.t _
      · intro hg; try simp only [hg, cnd_true]; try simp only [hg, cnd_true, Bool.true_and]
        refine o_pick_and rfl rfl rfl ⟨rfl, rfl, rfl⟩
      apply u_guard
      · exact GC.t _
      · intro hg; try simp only [hg, cnd_true]; try simp only [hg, cnd_true, Bool.true_and]
        refine o_not rfl ⟨rfl, rfl, rfl⟩
      refine u_step (o_pick_and rfl rfl rfl ?_)
      refine u_nil ?_
      refine hK13 _ ?_
      refine WP.cond rfl (fun hc14 => ?_) (fun hc14 => ?_)
      ·
        try simp only [Q0, Q1, Q2, Q3, Q4, Q5, Q6, Q7, Q8, ge_iff_le, gt_iff_lt] at hc14
        refine WP.seq fun K15 hK15 => ?_
        refine WP.reg tabOk rfl ?_
        refine u_step (o_assign rfl ?_)
        refine u_nil ?_
        refine hK15 _ ?_
        refine WP.ret ?_
        refine ret_ok rfl ?_ (by omega) (fun t ht => (hk3 t (by omega)).trans ((hk2 t (by omega))))
        -- ret 3
        clear hK1 hK4 hK5 hK8 hK9 hK12 hK13 hK15
        refine congrArg D.bool ?_
        have hl := hc14
        simp only [matchV, ofCollV]
        grind
      ·
        try simp only [Q0, Q1, Q2, Q3, Q4, Q5, Q6, Q7, Q8, ge_iff_le, gt_iff_lt] at hc14
        have hco : ofCollV f e = true := by
          have hl := hc14
          simp only [ofCollV]
          grind
        have hma := match_at hmf hme hk1 hkn hco
        refine WP.skip ?_
        refine hK12 _ ?_
        refine WP.seq fun K16 hK16 => ?_
        refine WP.seq fun K17 hK17 => ?_
        refine WP.reg tabOk rfl ?_
        refine u_step (o_fa_loc rfl th24 rfl rfl th22 (by decide) hb2_3 ?_)
        refine u_step (o_ld_loc rfl th22 rfl hb2_3 rfl ?_)
        refine u_step (o_len_sl rfl th22 rfl ?_)
        refine u_step (o_bin_int rfl rfl (by decide) rfl ?_)
        refine u_nil ?_
        refine hK17 _ ?_
        refine WP.cond rfl (fun hc18 => ?_) (fun hc18 => ?_)
        ·
          try simp only [Q0, Q1, Q2, Q3, Q4, Q5, Q6, Q7, Q8, ge_iff_le, gt_iff_lt] at hc18
          refine WP.seq fun K19 hK19 => ?_
          refine WP.reg tabOk rfl ?_
          refine u_step (o_assign rfl ?_)
          refine u_nil ?_
          refine hK19 _ ?_
          refine WP.ret ?_
          refine ret_ok rfl ?_ (by omega) (fun t ht => (hk3 t (by omega)).trans ((hk2 t (by omega))))
          -- ret 4
          clear hK1 hK4 hK5 hK8 hK9 hK12 hK13 hK16 hK17 hK19
          refine congrArg D.bool ?_
          rw [hma]
          have hl := hc18
          simp only [atPathV, List.length_map] at *
          grind
        ·
          try simp only [Q0, Q1, Q2, Q3, Q4, Q5, Q6, Q7, Q8, ge_iff_le, gt_iff_lt] at hc18
          have hp0 : ¬ f.path.length = 0 := by simpa using hc18
          refine WP.skip ?_
          refine hK16 _ ?_
          refine WP.seq fun K20 hK20 => ?_
          refine WP.seq fun K21 hK21 => ?_
          refine WP.reg tabOk rfl ?_
          refine u_step (o_fa_loc rfl th30 rfl rfl th3 (by decide) hb3 ?_)
          refine u_step (o_ld_loc rfl th3 rfl hb3 rfl ?_)
          refine u_nil ?_
          refine hK21 _ ?_
          refine WP.block ?_
          refine WP.seq fun K22 hK22 => ?_
          refine WP.reg tabOk rfl ?_
          refine u_step (o_bin_int rfl rfl (by decide) rfl ?_)
          refine u_step (o_assign rfl ?_)
          refine u_nil ?_
          refine hK22 _ ?_
          refine WP.cond rfl (fun hc23 => ?_) (fun hc23 => ?_)
          ·
            try simp only [Q0, Q1, Q2, Q3, Q4, Q5, Q6, Q7, Q8, ge_iff_le, gt_iff_lt] at hc23
            have hkA : e.kind = 2 := by simpa using hc23
            refine WP.seq fun K24 hK24 => ?_
            refine WP.reg tabOk rfl ?_
            refine u_step (o_fa_loc rfl th30 rfl rfl th27 (by decide) hb3 ?_)
            refine u_step (o_ld_agg rfl th27 rfl hb3 rfl rfl rfl ?_)
            refine u_step (o_fa_loc rfl th24 rfl rfl th22 (by decide) hb2_3 ?_)
            refine u_step (o_ld_loc rfl th22 rfl hb2_3 rfl ?_)
            refine u_step (o_pcall (pv2 (v := e.doc) (s62 e.doc f.path (check_may (mayE_doc hme (by simpa using hc23)).2))) rfl ?_)
            refine u_step (o_moveV (v := .tup _) rfl ?_)
            refine u_step (o_ext rfl rfl ?_)
            refine u_step (o_ext rfl rfl ?_)
            refine u_step (g_alloc th27 rfl fun o25 hb25 hk25 => ?_)
            have hb2_25 := (hk25 _ (by omega)).trans hb2_3
            have hb3_25 := (hk25 _ (by omega)).trans hb3
            refine u_step0 (g_sta rfl (congrArg SV.d (encV_eq _)) th27 rfl hb25 (by simp [valCells]) fun o26 hb26 hk26 => ?_)
            have hb2_26 := (hk26 _ (by omega)).trans hb2_25
            have hb3_26 := (hk26 _ (by omega)).trans hb3_25
            refine u_step (o_assign rfl ?_)
            refine u_nil ?_
            refine hK24 _ ?_
            refine WP.seq fun K27 hK27 => ?_
            refine WP.reg tabOk rfl ?_
            refine u_step (o_move rfl ?_)
            refine u_step (o_assign rfl ?_)
            refine u_nil ?_
            refine hK27 _ ?_
            refine WP.ret ?_
            refine ret_ok rfl ?_ (by omega) (fun t ht => (hk26 t (by omega)).trans ((hk25 t (by omega)).trans ((hk3 t (by omega)).trans ((hk2 t (by omega))))))
            -- ret 5
            clear hK1 hK4 hK5 hK8 hK9 hK12 hK13 hK16 hK17 hK20 hK21 hK22 hK24 hK27
            refine congrArg D.bool ?_
            rw [hma]
            simp only [atPathV]
            rw [if_neg hp0, if_pos hkA, getP_doc hmf hme hkA hp0]
          ·
            try simp only [Q0, Q1, Q2, Q3, Q4, Q5, Q6, Q7, Q8, ge_iff_le, gt_iff_lt] at hc23
            have hkC : ¬ e.kind = 2 := by simpa using hc23
            refine WP.seq fun K28 hK28 => ?_
            refine WP.reg tabOk rfl ?_
            refine u_step (o_bin_int rfl rfl (by decide) rfl ?_)
            refine u_step (o_assign rfl ?_)
            refine u_nil ?_
            refine hK28 _ ?_
            refine WP.cond rfl (fun hc29 => ?_) (fun hc29 => ?_)
            ·
              try simp only [Q0, Q1, Q2, Q3, Q4, Q5, Q6, Q7, Q8, ge_iff_le, gt_iff_lt] at hc29
              have hkB : e.kind = 3 := by simpa using hc29
              refine WP.seq fun K30 hK30 => ?_
              refine WP.seq fun K31 hK31 => ?_
              refine WP.reg tabOk rfl ?_
              refine u_step (o_assign rfl ?_)
              refine u_nil ?_
              refine hK31 _ ?_
              refine WP.block ?_
              refine WP.loopL (ι := Nat) (fun i => ⟨al [(2, .loc nk 0), (3, .loc (nk + 1) 0), (7, .d (.int .i64 i))], o3, ((nk + 1) + 1)⟩) (fun i => i ≤ e.deltas.length ∧ ∀ (j : Nat) (hj : j < e.deltas.length), j < i → meetV (e.deltas[j]'hj).path f.path = false) (fun i => e.deltas.length - i) (fun i hA => ?_) 0 ?_ ?_
              ·
                obtain ⟨hle_i, hin_i⟩ := hA
                refine WP.seq fun K32 hK32 => ?_
                refine WP.seq fun K33 hK33 => ?_
                refine WP.reg tabOk rfl ?_
                refine u_step (o_move rfl ?_)
                refine u_step (o_fa_loc rfl th30 rfl rfl th28 (by decide) hb3 ?_)
                refine u_step (o_ld_loc rfl th28 rfl hb3 rfl ?_)
                refine u_step (o_len_sl rfl th28 rfl ?_)
                refine u_step (o_bin_int rfl rfl (by decide) rfl ?_)
                refine u_nil ?_
                refine hK33 _ ?_
                refine WP.cond rfl (fun hc34 => ?_) (fun hc34 => ?_)
                ·
                  try simp only [Q0, Q1, Q2, Q3, Q4, Q5, Q6, Q7, Q8, ge_iff_le, gt_iff_lt] at hc34
                  refine WP.skip ?_
                  refine hK32 _ ?_
                  refine WP.seq fun K35 hK35 => ?_
                  refine WP.block ?_
                  refine WP.seq fun K36 hK36 => ?_
                  refine WP.drw tabOk (by kernel_rfl) rfl (by kernel_rfl) ?_
                  refine d_step (o_fa_loc rfl th30 rfl rfl th28 (by decide) hb3 ⟨rfl, rfl, rfl⟩) ?_
                  refine d_step (o_ld_loc rfl th28 rfl hb3 rfl ⟨rfl, rfl, rfl⟩) ?_
                  refine d_step (o_move rfl ⟨rfl, rfl, rfl⟩) ?_
                  refine d_step (o_ia_G (xs := e.deltas) default rfl rfl th28 rfl th83 rfl (by simpa using hc34) ⟨rfl, rfl, rfl⟩) ?_
                  refine d_step (o_fa_el rfl th83 rfl rfl th22 (by decide) rfl ⟨rfl, rfl, rfl⟩) ?_
                  refine d_step (o_ld_el rfl th22 rfl rfl ⟨rfl, rfl, rfl⟩) ?_
                  refine d_step (o_fa_loc rfl th24 rfl rfl th22 (by decide) hb2_3 ⟨rfl, rfl, rfl⟩) ?_
                  refine d_step (o_ld_loc rfl th22 rfl hb2_3 rfl ⟨rfl, rfl, rfl⟩) ?_
                  refine d_step (o_pcall (s63 (e.deltas.getD i default).path f.path) rfl ⟨rfl, rfl, rfl⟩) ?_
                  refine d_step (o_move rfl ⟨rfl, rfl, rfl⟩) ?_
                  apply d_guard
                  · exact GC.f _
                  · intro hg
                    refine o_fa_loc rfl th24 rfl rfl th22 (by decide) hb2_3 ⟨rfl, rfl, rfl⟩
                  apply d_guard
                  · exact GC.f _
                  · intro hg; try simp only [hg, cnd_true]; try simp only [hg, cnd_true, Bool.true_and]
                    refine o_ld_loc rfl th22 rfl hb2_3 rfl ⟨rfl, rfl, rfl⟩
                  apply d_guard
                  · exact GC.f _
                  · intro hg
                    refine o_fa_loc rfl th30 rfl rfl th28 (by decide) hb3 ⟨rfl, rfl, rfl⟩
                  apply d_guard
                  · exact GC.f _
                  · intro hg; try simp only [hg, cnd_true]; try simp only [hg, cnd_true, Bool.true_and]
                    refine o_ld_loc rfl th28 rfl hb3 rfl ⟨rfl, rfl, rfl⟩
                  apply d_guard
                  · exact GC.f _
                  · intro hg
                    refine o_move rfl ⟨rfl, rfl, rfl⟩
                  apply d_guard
                  · exact GC.f _
                  · intro hg; try simp only [hg, cnd_true]; try simp only [hg, cnd_true, Bool.true_and]
                    refine o_ia_G (xs := e.deltas) default rfl rfl th28 rfl th83 rfl (by simpa using hc34) ⟨rfl, rfl, rfl⟩
                  apply d_guard
                  · exact GC.f _
                  · intro hg; try simp only [hg, cnd_true]; try simp only [hg, cnd_true, Bool.true_and]
                    refine o_fa_el rfl th83 rfl rfl th22 (by decide) rfl ⟨rfl, rfl, rfl⟩
                  apply d_guard
                  · exact GC.f _
                  · intro hg; try simp only [hg, cnd_true]; try simp only [hg, cnd_true, Bool.true_and]
                    refine o_ld_el rfl th22 rfl rfl ⟨rfl, rfl, rfl⟩
                  apply d_guard
                  · exact GC.f _
                  · intro hg; try simp only [hg, cnd_true]; try simp only [hg, cnd_true, Bool.true_and]
                    refine o_pcall (s63 f.path (e.deltas.getD i default).path) rfl ⟨rfl, rfl, rfl⟩
                  refine d_step (o_pick_or rfl rfl rfl ⟨rfl, rfl, rfl⟩) ?_
                  refine d_nil ?_
                  refine hK36 _ ?_
                  refine WP.cond rfl (fun hc37 => ?_) (fun hc37 => ?_)
                  ·
                    try simp only [Q0, Q1, Q2, Q3, Q4, Q5, Q6, Q7, Q8, ge_iff_le, gt_iff_lt] at hc37
                    refine WP.seq fun K38 hK38 => ?_
                    refine WP.reg tabOk rfl ?_
                    refine u_step (o_assign rfl ?_)
                    refine u_nil ?_
                    refine hK38 _ ?_
                    refine WP.ret ?_
                    refine ret_ok rfl ?_ (by omega) (fun t ht => (hk3 t (by omega)).trans ((hk2 t (by omega))))
                    -- ret 6
                    clear hK1 hK4 hK5 hK8 hK9 hK12 hK13 hK16 hK17 hK20 hK21 hK22 hK28 hK30 hK31 hK32 hK33 hK35 hK36 hK38
                    refine congrArg D.bool ?_
                    rw [hma]
                    simp only [atPathV]
                    rw [if_neg hp0, if_neg (by omega), if_pos hkB]
                    have hl := hc37
                    refine (List.any_eq_true.2 ⟨e.deltas[i], List.getElem_mem _, ?_⟩).symm
                    have hli : i < e.deltas.length := by omega
                    simpa [meetV, hli] using hl
                  ·
                    try simp only [Q0, Q1, Q2, Q3, Q4, Q5, Q6, Q7, Q8, ge_iff_le, gt_iff_lt] at hc37
                    refine WP.skip ?_
                    refine hK35 _ ?_
                    refine WP.reg tabOk rfl ?_
                    refine u_step (o_move rfl ?_)
                    refine u_step (o_bin_int rfl rfl (by decide) rfl ?_)
                    refine u_step (o_assign rfl ?_)
                    refine u_nil ?_
                    -- back
                    refine ⟨i + 1, ⟨by omega, ?_⟩, by omega, ?_⟩
                    · intro j hj h1
                      by_cases h2 : j = i
                      · subst h2; have hl := hc37; simpa [meetV, hj] using hl
                      · exact hin_i j hj (by omega)
                    · refine Le.al ?_
                      simp only [List.forall_mem_cons]
                      exact ⟨rfl, rfl, cnt (by omega), by simp⟩
                ·
                  try simp only [Q0, Q1, Q2, Q3, Q4, Q5, Q6, Q7, Q8, ge_iff_le, gt_iff_lt] at hc34
                  refine WP.exit ?_
                  refine hK30 _ ?_
                  refine WP.seq fun K39 hK39 => ?_
                  refine WP.reg tabOk rfl ?_
                  refine u_step (o_assign rfl ?_)
                  refine u_nil ?_
                  refine hK39 _ ?_
                  refine WP.ret ?_
                  refine ret_ok rfl ?_ (by omega) (fun t ht => (hk3 t (by omega)).trans ((hk2 t (by omega))))
                  -- ret 7
                  clear hK1 hK4 hK5 hK8 hK9 hK12 hK13 hK16 hK17 hK20 hK21 hK22 hK28 hK30 hK31 hK32 hK33 hK39
                  refine congrArg D.bool ?_
                  rw [hma]
                  simp only [atPathV]
                  rw [if_neg hp0, if_neg (by omega), if_pos hkB]
                  refine (List.any_eq_false.2 fun x hx => ?_).symm
                  obtain ⟨j, hj, rfl⟩ := List.mem_iff_getElem.1 hx
                  rw [hin_i j hj (by omega)]; simp
              ·
                simp
              ·
                refine Le.al ?_
                simp only [List.forall_mem_cons]
                exact ⟨rfl, rfl, rfl, by simp⟩
            ·
              try simp only [Q0, Q1, Q2, Q3, Q4, Q5, Q6, Q7, Q8, ge_iff_le, gt_iff_lt] at hc29
              refine WP.skip ?_
              refine hK20 _ ?_
              refine WP.seq fun K40 hK40 => ?_
              refine WP.reg tabOk rfl ?_
              refine u_step (o_assign rfl ?_)
              refine u_nil ?_
              refine hK40 _ ?_
              refine WP.ret ?_
              refine ret_ok rfl ?_ (by omega) (fun t ht => (hk3 t (by omega)).trans ((hk2 t (by omega))))
              -- ret 8
              clear hK1 hK4 hK5 hK8 hK9 hK12 hK13 hK16 hK17 hK20 hK21 hK22 hK28 hK40
              refine congrArg D.bool ?_
              rw [hma]
              simp only [atPathV]
              have h3 : ¬ e.kind = 3 := by simpa using hc29
              have h2 : ¬ e.kind = 2 := hkC
              rw [if_neg hp0, if_neg h2, if_neg h3]

end Go.Proofs.YtpkcbdhjnnnkbaaGreat.Abs

set_option linter.unusedVariables false
set_option linter.unusedSimpArgs false
set_option maxRecDepth 10000
namespace Go.Proofs.YtpkcbdhjnnnkbaaGreat.Abs
open Go
mutual
/-- How many values there are, up to a bound. -/
def nodesN : Val → Nat → Nat
  | .mk _ _ _ xs ns, d => if 40 < d then 1048576 else nodesL xs d (1 + ns.length)
def nodesL : List Val → Nat → Nat → Nat
  | [], _, n => n
  | x :: xs, d, n => if n < 65536 then nodesL xs d (n + nodesN x (d + 1)) else n
end
mutual
theorem nodesN_le : ∀ (v : Val) (d : Nat), nodesN v d ≤ 1048576 * szV v
  | .mk k i t xs ns, d => by
    have h1 := nodesL_le xs d (1 + ns.length)
    have h2 := szN_len ns
    simp only [nodesN, szV]
    split <;> omega
theorem nodesL_le : ∀ (xs : List Val) (d n : Nat), nodesL xs d n ≤ n + 1048576 * szVs xs
  | [], _, n => by simp [nodesL, szVs]
  | x :: xs, d, n => by
    have h1 := nodesN_le x (d + 1)
    have h2 := nodesL_le xs d (n + nodesN x (d + 1))
    simp only [nodesL, szVs]
    split <;> omega
end
theorem nodesL_at {xs : List Val} {i d n : Nat} (h : i < xs.length) (hn : n < 65536) : nodesL (xs.drop i) d n = nodesL (xs.drop (i + 1)) d (n + nodesN (xs[i]'h) (d + 1)) := by
  rw [List.drop_eq_getElem_cons h, nodesL, if_pos hn]
theorem nodesL_full {xs : List Val} {i d n : Nat} (hi : i ≤ xs.length) (h : ¬ (i < xs.length ∧ n < 65536)) : nodesL (xs.drop i) d n = n := by
  by_cases hx : i < xs.length
  · rw [List.drop_eq_getElem_cons hx, nodesL, if_neg (by omega)]
  · have e : xs.drop i = [] := List.drop_eq_nil_of_le (by omega)
    rw [e, nodesL]
theorem wr_arg {P : Program} {f : FuncId} {x : SV} {m : Int} {c : Nat} {r : SV} (h : PSpec P f [x, .d (.int .i64 (c : Int))] r) (e : m = (c : Int)) : PSpec P f [x, .d (.int .i64 m)] r := by rw [e]; exact h
theorem ltN (k n : Nat) : decide ((k : Int) < (n : Int)) = decide (k < n) := by
  rw [Bool.eq_iff_iff]; simp only [decide_eq_true_eq]; omega
theorem lt50 (n : Nat) : decide ((50 : Int) < (n : Int)) = decide (50 < n) := ltN 50 n
def largeV (v : Val) : Bool := decide (3000 < nodesN v 0)
def largeD (l : List Dlt) : Bool := (l.take 70).any (fun d => largeV d.value || decide (50 < d.path.length)) || decide (100 < l.length)
def largeE (e : Etr) : Bool := largeV e.id || largeV e.doc || largeD e.deltas
def largeF (f : Flt) (e : Etr) : Bool := decide (50 < f.path.length) || largeE e
theorem szVs_take : ∀ (xs : List Val) (i : Nat), szVs (xs.take i) ≤ szVs xs
  | [], i => by simp [szVs]
  | x :: xs, 0 => by simp [szVs]
  | x :: xs, i + 1 => by
    have := szVs_take xs i
    simp only [List.take_succ_cons, szVs]; omega
theorem szVs_snoc : ∀ {xs : List Val} {i : Nat} (h : i < xs.length), szVs (xs.take (i + 1)) = szVs (xs.take i) + szV (xs[i]'h)
  | x :: xs, 0, _ => by simp [szVs]
  | x :: xs, i + 1, h => by
    have := szVs_snoc (xs := xs) (i := i) (by simpa using h)
    simp only [List.take_succ_cons, szVs, this, List.getElem_cons_succ]; omega
theorem take70 {l : List Dlt} {p : Dlt → Bool} {i : Nat} (hi : i ≤ l.length) (h : ∀ (j : Nat) (hj : j < l.length), j < i → p l[j] = false) (he : ¬ (i < l.length ∧ i < 70)) : (l.take 70).any p = false := by
  rw [List.any_eq_false]
  intro x hx
  obtain ⟨j, hj, rfl⟩ := List.mem_iff_getElem.1 hx
  rw [List.getElem_take]
  simp at hj
  rw [h j (by omega) (by omega)]; simp
theorem take70t {l : List Dlt} {p : Dlt → Bool} {i : Nat} (hi : i < l.length) (h7 : i < 70) (hp : p (l[i]'hi) = true) : (l.take 70).any p = true :=
  List.any_eq_true.2 ⟨l[i], List.mem_iff_getElem.2 ⟨i, by simp; omega, by rw [List.getElem_take]⟩, hp⟩

theorem fn69 : FnOk Tryz.prog 69 35 [4] (bodyOf Tryz.f69) := ⟨Tryz.f69, Tryz.func69, by kernel_rfl, by decide, by kernel_rfl, by kernel_rfl⟩
theorem s69A (m : Nat) : ∀ (v : Val) (d : Nat), SizeOf.sizeOf v < m → szV v ≤ 1099511627776 → d ≤ 41 → PSpec Tryz.prog 69 [.d (encV v), .d (.int .i64 (d : Int))] (.d (.int .i64 (nodesN v d : Nat))) := by
  induction m with
  | zero => intros; omega
  | succ m ih =>
    rintro ⟨kd, it, tx, xs, ns⟩ d hv hsz hd
    have hsz2 : 1 + tx.length + szVs xs + szN ns ≤ 1099511627776 := hsz
    have hxl := szVs_len xs
    have hnl := szN_len ns
    have hln := encVs_length xs
    refine PSpec.of fn69 (by simp) fun o nk => ?_
    refine WP.seq fun K1 hK1 => ?_
    refine WP.reg tabOk rfl ?_
    refine u_step (g_box rfl fun o2 hb2 hk2 => ?_)
    refine u_step (o_assign rfl ?_)
    refine u_nil ?_
    refine hK1 _ ?_
    refine WP.seq fun K3 hK3 => ?_
    refine WP.seq fun K4 hK4 => ?_
    refine WP.reg tabOk rfl ?_
    refine u_step (o_move rfl ?_)
    refine u_step (o_bin_int rfl rfl (by decide) rfl ?_)
    refine u_nil ?_
    refine hK4 _ ?_
    refine WP.cond rfl (fun hc5 => ?_) (fun hc5 => ?_)
    ·
      try simp only [Q0, Q1, Q2, Q3, Q4, Q5, Q6, Q7, Q8, ge_iff_le, gt_iff_lt] at hc5
      refine WP.seq fun K6 hK6 => ?_
      refine WP.reg tabOk rfl ?_
      refine u_step (o_assign rfl ?_)
      refine u_nil ?_
      refine hK6 _ ?_
      refine WP.ret ?_
      refine ret_ok rfl ?_ (by omega) (fun t ht => (hk2 t (by omega)))
      -- ret 1
      clear hK1 hK3 hK4 hK6
      refine congrArg (D.int .i64) ?_
      have hq : 40 < d := by have := hc5; (try simp at this); omega
      rw [nodesN, if_pos hq]; rfl
    ·
      try simp only [Q0, Q1, Q2, Q3, Q4, Q5, Q6, Q7, Q8, ge_iff_le, gt_iff_lt] at hc5
      have hd40 : ¬ 40 < d := by have := hc5; (try simp at this); omega
      refine WP.skip ?_
      refine hK3 _ ?_
      refine WP.seq fun K7 hK7 => ?_
      refine WP.reg tabOk rfl ?_
      refine u_step (o_fa_loc rfl th27 rfl rfl th22 (by decide) hb2 ?_)
      refine u_step (o_ld_loc rfl th22 rfl hb2 rfl ?_)
      refine u_step (o_len_sl rfl th22 rfl ?_)
      refine u_step (o_bin_int rfl rfl (by decide) rfl ?_)
      refine u_step (o_assign rfl ?_)
      refine u_nil ?_
      refine hK7 _ ?_
      refine WP.seq fun K8 hK8 => ?_
      refine WP.seq fun K9 hK9 => ?_
      refine WP.reg tabOk rfl ?_
      refine u_step (o_assign rfl ?_)
      refine u_nil ?_
      refine hK9 _ ?_
      refine WP.block ?_
      refine WP.loopL (ι := Nat × Nat) (fun ⟨i, n⟩ => ⟨al [(1, .d (.int .i64 (d : Int))), (2, .loc nk 0), (5, .d (.int .i64 (n : Nat))), (6, .d (.int .i64 i))], o2, (nk + 1)⟩) (fun ⟨i, n⟩ => i ≤ xs.length ∧ n ≤ 1 + ns.length + 1048576 * szVs (xs.take i) ∧ nodesL (xs.drop i) d n = nodesL xs d (1 + ns.length)) (fun ⟨i, n⟩ => xs.length - i) (fun ⟨i, n⟩ hA => ?_) ⟨0, 1 + ns.length⟩ ?_ ?_
      ·
        obtain ⟨hle, hnb, hnn⟩ := hA
        refine WP.seq fun K10 hK10 => ?_
        refine WP.seq fun K11 hK11 => ?_
        refine WP.reg tabOk rfl ?_
        refine u_step (o_move rfl ?_)
        refine u_step (o_fa_loc rfl th27 rfl rfl th25 (by decide) hb2 ?_)
        refine u_step (o_ld_loc rfl th25 rfl hb2 rfl ?_)
        refine u_step (o_len_sl rfl th25 rfl ?_)
        refine u_step (o_bin_int rfl rfl (by decide) rfl ?_)
        refine u_step (o_move rfl ?_)
        apply u_guard
        · exact GC.t _
        · intro hg
          refine o_move rfl ⟨rfl, rfl, rfl⟩
        apply u_guard
        · exact GC.t _
        · intro hg; try simp only [hg, cnd_true]; try simp only [hg, cnd_true, Bool.true_and]
          refine o_bin_int rfl rfl (by decide) rfl ⟨rfl, rfl, rfl⟩
        refine u_step (o_pick_and rfl rfl rfl ?_)
        refine u_nil ?_
        refine hK11 _ ?_
        refine WP.cond rfl (fun hc12 => ?_) (fun hc12 => ?_)
        ·
          try simp only [Q0, Q1, Q2, Q3, Q4, Q5, Q6, Q7, Q8, ge_iff_le, gt_iff_lt] at hc12
          have hin2 : i < xs.length ∧ n < 65536 := by have := hc12; (try simp [encVs_length] at this); omega
          refine WP.skip ?_
          refine hK10 _ ?_
          refine WP.seq fun K13 hK13 => ?_
          refine WP.block ?_
          refine WP.reg tabOk rfl ?_
          refine u_step (o_move rfl ?_)
          refine u_step (o_fa_loc rfl th27 rfl rfl th25 (by decide) hb2 ?_)
          refine u_step (o_ld_loc rfl th25 rfl hb2 rfl ?_)
          refine u_step (o_move rfl ?_)
          first | refine u_step (o_ia_map rfl rfl th25 rfl th27 rfl (by omega) ?_) | refine u_step (o_ia_vs rfl rfl th25 rfl th27 rfl (by omega) ?_)
          refine u_step (o_ld_el rfl th27 (by first | rfl | simp only [encV_leaf, encV_width, Bool.not_true, TK.agg]) (by first | rfl | simp only [encV_leaf, encV_width, Bool.not_true, TK.agg]) ?_)
          refine u_step (o_move rfl ?_)
          refine u_step (o_bin_int rfl rfl (by decide) rfl ?_)
          refine u_step (o_pcall (wr_arg (c := d + 1) (ih xs[i] (d + 1) (by exact items_lt' (by omega) hv) (by have := szVs_get (xs := xs) (j := i) (by omega); omega) (by omega)) (by rw [wrap_i64 (by omega) (by omega)]; omega)) rfl ?_)
          refine u_step (o_bin_int rfl rfl (by decide) rfl ?_)
          refine u_step (o_assign rfl ?_)
          refine u_nil ?_
          refine hK13 _ ?_
          refine WP.reg tabOk rfl ?_
          refine u_step (o_move rfl ?_)
          refine u_step (o_bin_int rfl rfl (by decide) rfl ?_)
          refine u_step (o_assign rfl ?_)
          refine u_nil ?_
          -- back
          have hb1 := nodesN_le xs[i] (d + 1)
          have hb2 := szVs_snoc (xs := xs) (i := i) (by omega)
          have hb3 := szVs_take xs (i + 1)
          refine ⟨⟨i + 1, n + nodesN xs[i] (d + 1)⟩, ⟨by omega, by omega, ?_⟩, by simp only; omega, ?_⟩
          · rw [← hnn, nodesL_at hin2.1 hin2.2]
          · refine Le.al ?_
            simp only [List.forall_mem_cons]
            exact ⟨rfl, rfl, add_w rfl (by omega), cnt (by omega), by simp⟩
        ·
          try simp only [Q0, Q1, Q2, Q3, Q4, Q5, Q6, Q7, Q8, ge_iff_le, gt_iff_lt] at hc12
          have hin2 : ¬ (i < xs.length ∧ n < 65536) := by have := hc12; (try simp [encVs_length] at this); omega
          refine WP.exit ?_
          refine hK8 _ ?_
          refine WP.seq fun K14 hK14 => ?_
          refine WP.reg tabOk rfl ?_
          refine u_step (o_move rfl ?_)
          refine u_step (o_assign rfl ?_)
          refine u_nil ?_
          refine hK14 _ ?_
          refine WP.ret ?_
          refine ret_ok rfl ?_ (by omega) (fun t ht => (hk2 t (by omega)))
          -- ret 2
          clear hK1 hK3 hK4 hK7 hK8 hK9 hK10 hK11 hK14
          refine congrArg (D.int .i64) ?_
          rw [nodesN, if_neg hd40, ← hnn, nodesL_full hle hin2]
      ·
        exact ⟨by omega, by omega, rfl⟩
      ·
        refine Le.al ?_
        simp only [List.forall_mem_cons]
        refine ⟨rfl, rfl, ?_, rfl, by simp⟩
        have hw : IntKind.i64.wrap (1 + ((ns.map D.str).length : Int)) = ((1 + ns.length : Nat) : Int) := by rw [List.length_map, wrap_i64 (by omega) (by omega)]; omega
        rw [← hw]; rfl
theorem s69 (v : Val) (d : Nat) (hsz : szV v ≤ 1099511627776) (hd : d ≤ 41) : PSpec Tryz.prog 69 [.d (encV v), .d (.int .i64 (d : Int))] (.d (.int .i64 (nodesN v d : Nat))) := s69A _ v d (Nat.lt_succ_self _) hsz hd

theorem fn26 : FnOk Tryz.prog 26 6 [2] (bodyOf Tryz.f26) := ⟨Tryz.f26, Tryz.func26, by kernel_rfl, by decide, by kernel_rfl, by kernel_rfl⟩
theorem s26 (v : Val) (hsz : szV v ≤ 1099511627776) : PSpec Tryz.prog 26 [.d (encV v)] (.d (.bool (largeV v))) := by
  obtain ⟨kd, it, tx, xs, ns⟩ := v
  refine PSpec.of fn26 (by simp) fun o nk => ?_
  refine WP.seq fun K1 hK1 => ?_
  refine WP.reg tabOk rfl ?_
  refine u_step (g_box rfl fun o2 hb2 hk2 => ?_)
  refine u_step (o_assign rfl ?_)
  refine u_nil ?_
  refine hK1 _ ?_
  refine WP.seq fun K3 hK3 => ?_
  refine WP.reg tabOk rfl ?_
  refine u_step (o_ld_agg rfl th27 rfl hb2 rfl rfl rfl ?_)
  refine u_step (o_pcall (s69 (.mk kd it tx xs ns) 0 hsz (by omega)) rfl ?_)
  refine u_step (o_bin_int rfl rfl (by decide) rfl ?_)
  refine u_step (o_assign rfl ?_)
  refine u_nil ?_
  refine hK3 _ ?_
  refine WP.ret ?_
  refine ret_ok rfl ?_ (by omega) (fun t ht => (hk2 t (by omega)))
  -- ret 1
  refine congrArg D.bool ?_
  unfold largeV
  rw [Bool.eq_iff_iff]
  simp only [decide_eq_true_eq]
  omega

theorem fn25 : FnOk Tryz.prog 25 32 [2] (bodyOf Tryz.f25) := ⟨Tryz.f25, Tryz.func25, by kernel_rfl, by decide, by kernel_rfl, by kernel_rfl⟩
theorem s25 (l : List Dlt) (hl : ∀ d ∈ l, szV d.value ≤ 1099511627776) : PSpec Tryz.prog 25 [.d (.sl 8 (l.map encD))] (.d (.bool (largeD l))) := by
  refine PSpec.bd fun hbd => ?_
  have hx : l.length ≤ 9223372036854775807 := by simpa using hbd.1.1
  refine PSpec.of fn25 (by simp) fun o nk => ?_
  refine WP.seq fun K1 hK1 => ?_
  refine WP.reg tabOk rfl ?_
  refine u_step (o_assign rfl ?_)
  refine u_nil ?_
  refine hK1 _ ?_
  refine WP.seq fun K2 hK2 => ?_
  refine WP.seq fun K3 hK3 => ?_
  refine WP.reg tabOk rfl ?_
  refine u_step (o_assign rfl ?_)
  refine u_nil ?_
  refine hK3 _ ?_
  refine WP.block ?_
  refine WP.loopL (ι := Nat) (fun i => ⟨al [(0, .d (.sl 8 (l.map encD))), (3, .d (.int .i64 i))], o, nk⟩) (fun i => i ≤ l.length ∧ ∀ (j : Nat) (hj : j < l.length), j < i → (largeV l[j].value || decide (50 < l[j].path.length)) = false) (fun i => l.length - i) (fun i hA => ?_) 0 ?_ ?_
  ·
    obtain ⟨hle_i, hin_i⟩ := hA
    refine WP.seq fun K4 hK4 => ?_
    refine WP.seq fun K5 hK5 => ?_
    refine WP.reg tabOk rfl ?_
    refine u_step (o_move rfl ?_)
    refine u_step (o_move rfl ?_)
    refine u_step (o_len_sl rfl th28 rfl ?_)
    refine u_step (o_bin_int rfl rfl (by decide) rfl ?_)
    refine u_step (o_move rfl ?_)
    apply u_guard
    · exact GC.t _
    · intro hg
      refine o_move rfl ⟨rfl, rfl, rfl⟩
    apply u_guard
    · exact GC.t _
    · intro hg; try simp only [hg, cnd_true]; try simp only [hg, cnd_true, Bool.true_and]
      refine o_bin_int rfl rfl (by decide) rfl ⟨rfl, rfl, rfl⟩
    refine u_step (o_pick_and rfl rfl rfl ?_)
    refine u_nil ?_
    refine hK5 _ ?_
    refine WP.cond rfl (fun hc6 => ?_) (fun hc6 => ?_)
    ·
      try simp only [Q0, Q1, Q2, Q3, Q4, Q5, Q6, Q7, Q8, ge_iff_le, gt_iff_lt] at hc6
      have hin2 : i < l.length ∧ i < 70 := by have := hc6; (try simp at this); omega
      have hil := hin2.1
      have hgd : l.getD i default = l[i] := by simp [hil]
      refine WP.skip ?_
      refine hK4 _ ?_
      refine WP.seq fun K7 hK7 => ?_
      refine WP.block ?_
      refine WP.seq fun K8 hK8 => ?_
      refine WP.reg tabOk rfl ?_
      refine u_step (o_move rfl ?_)
      refine u_step (o_move rfl ?_)
      refine u_step (o_ia_G (xs := l) default rfl rfl th28 rfl th83 rfl hin2.1 ?_)
      refine u_step (o_fa_el rfl th83 rfl rfl th27 (by decide) rfl ?_)
      refine u_step (o_ld_el rfl th27 rfl rfl ?_)
      refine u_step (o_pcall (pv (v := (l.getD i default).value) (s26 _ (by rw [hgd]; exact hl _ (List.getElem_mem _)))) rfl ?_)
      refine u_step (o_move rfl ?_)
      apply u_guard
      · exact GC.f _
      · intro hg
        refine o_move rfl ⟨rfl, rfl, rfl⟩
      apply u_guard
      · exact GC.f _
      · intro hg
        refine o_move rfl ⟨rfl, rfl, rfl⟩
      apply u_guard
      · exact GC.f _
      · intro hg; try simp only [hg, cnd_true]; try simp only [hg, cnd_true, Bool.true_and]
        refine o_ia_G (xs := l) default rfl rfl th28 rfl th83 rfl hin2.1 ⟨rfl, rfl, rfl⟩
      apply u_guard
      · exact GC.f _
      · intro hg; try simp only [hg, cnd_true]; try simp only [hg, cnd_true, Bool.true_and]
        refine o_fa_el rfl th83 rfl rfl th22 (by decide) rfl ⟨rfl, rfl, rfl⟩
      apply u_guard
      · exact GC.f _
      · intro hg; try simp only [hg, cnd_true]; try simp only [hg, cnd_true, Bool.true_and]
        refine o_ld_el rfl th22 rfl rfl ⟨rfl, rfl, rfl⟩
      apply u_guard
      · exact GC.f _
      · intro hg; try simp only [hg, cnd_true]; try simp only [hg, cnd_true, Bool.true_and]
        refine o_len_sl rfl th22 rfl ⟨rfl, rfl, rfl⟩
      apply u_guard
      · exact GC.f _
      · intro hg; try simp only [hg, cnd_true]; try simp only [hg, cnd_true, Bool.true_and]
        refine o_bin_int rfl rfl (by decide) rfl ⟨rfl, rfl, rfl⟩
      refine u_step (o_pick_or rfl rfl rfl ?_)
      refine u_nil ?_
      refine hK8 _ ?_
      refine WP.cond rfl (fun hc9 => ?_) (fun hc9 => ?_)
      ·
        try simp only [Q0, Q1, Q2, Q3, Q4, Q5, Q6, Q7, Q8, ge_iff_le, gt_iff_lt] at hc9
        refine WP.seq fun K10 hK10 => ?_
        refine WP.reg tabOk rfl ?_
        refine u_step (o_assign rfl ?_)
        refine u_nil ?_
        refine hK10 _ ?_
        refine WP.ret ?_
        refine ret_ok rfl ?_ (by omega) (fun _ _ => rfl)
        -- ret 1
        clear hK1 hK2 hK3 hK4 hK5 hK7 hK8 hK10
        refine congrArg D.bool ?_
        have hlq := hc9
        unfold largeD
        rw [take70t (p := fun d => largeV d.value || decide (50 < d.path.length)) hin2.1 hin2.2 (by rw [hgd] at hlq; simpa only [List.length_map, lt50] using hlq)]; rfl
      ·
        try simp only [Q0, Q1, Q2, Q3, Q4, Q5, Q6, Q7, Q8, ge_iff_le, gt_iff_lt] at hc9
        refine WP.skip ?_
        refine hK7 _ ?_
        refine WP.reg tabOk rfl ?_
        refine u_step (o_move rfl ?_)
        refine u_step (o_bin_int rfl rfl (by decide) rfl ?_)
        refine u_step (o_assign rfl ?_)
        refine u_nil ?_
        -- back
        refine ⟨i + 1, ⟨by omega, ?_⟩, by omega, ?_⟩
        · intro j hj h1
          by_cases h2 : j = i
          · subst h2; have hlq := hc9; rw [hgd] at hlq; simpa only [List.length_map, lt50] using hlq
          · exact hin_i j hj (by omega)
        · refine Le.al ?_
          simp only [List.forall_mem_cons]
          exact ⟨rfl, cnt (by omega), by simp⟩
    ·
      try simp only [Q0, Q1, Q2, Q3, Q4, Q5, Q6, Q7, Q8, ge_iff_le, gt_iff_lt] at hc6
      have hin2 : ¬ (i < l.length ∧ i < 70) := by have := hc6; (try simp at this); omega
      refine WP.exit ?_
      refine hK2 _ ?_
      refine WP.seq fun K11 hK11 => ?_
      refine WP.reg tabOk rfl ?_
      refine u_step (o_move rfl ?_)
      refine u_step (o_len_sl rfl th28 rfl ?_)
      refine u_step (o_bin_int rfl rfl (by decide) rfl ?_)
      refine u_step (o_assign rfl ?_)
      refine u_nil ?_
      refine hK11 _ ?_
      refine WP.ret ?_
      refine ret_ok rfl ?_ (by omega) (fun _ _ => rfl)
      -- ret 2
      clear hK1 hK2 hK3 hK4 hK5 hK11
      refine congrArg D.bool ?_
      unfold largeD
      rw [take70 (p := fun d => largeV d.value || decide (50 < d.path.length)) hle_i hin_i hin2, Bool.eq_iff_iff]
      simp
      omega
  ·
    simp
  ·
    refine Le.al ?_
    simp only [List.forall_mem_cons]
    exact ⟨rfl, rfl, by simp⟩

theorem fn22 : FnOk Tryz.prog 22 16 [2] (bodyOf Tryz.f22) := ⟨Tryz.f22, Tryz.func22, by kernel_rfl, by decide, by kernel_rfl, by kernel_rfl⟩
theorem s22 (e : Etr) (ok : OkE e) (okd : ∀ d ∈ e.deltas, szV d.value ≤ 1099511627776) : PSpec Tryz.prog 22 [.d (encE e)] (.d (.bool (largeE e))) := by
  refine PSpec.of fn22 (by simp) fun o nk => ?_
  refine WP.seq fun K1 hK1 => ?_
  refine WP.reg tabOk rfl ?_
  refine u_step (g_box rfl fun o2 hb2 hk2 => ?_)
  refine u_step (o_assign rfl ?_)
  refine u_nil ?_
  refine hK1 _ ?_
  refine WP.seq fun K3 hK3 => ?_
  refine WP.reg tabOk rfl ?_
  refine u_step (o_fa_loc rfl th30 rfl rfl th27 (by decide) hb2 ?_)
  refine u_step (o_ld_agg rfl th27 rfl hb2 rfl rfl rfl ?_)
  refine u_step (o_pcall (pv (v := e.id) (s26 e.id ok.si)) rfl ?_)
  refine u_step (o_move rfl ?_)
  apply u_guard
  · exact GC.f _
  · intro hg
    refine o_fa_loc rfl th30 rfl rfl th27 (by decide) hb2 ⟨rfl, rfl, rfl⟩
  apply u_guard
  · exact GC.f _
  · intro hg; try simp only [hg, cnd_true]; try simp only [hg, cnd_true, Bool.true_and]
    refine o_ld_agg rfl th27 rfl hb2 rfl rfl rfl ⟨rfl, rfl, rfl⟩
  apply u_guard
  · exact GC.f _
  · intro hg; try simp only [hg, cnd_true]; try simp only [hg, cnd_true, Bool.true_and]
    refine o_pcall (pv (v := e.doc) (s26 e.doc ok.sd)) rfl ⟨rfl, rfl, rfl⟩
  refine u_step (o_pick_or rfl rfl rfl ?_)
  refine u_step (o_move rfl ?_)
  apply u_guard
  · exact GC.f _
  · intro hg
    refine o_fa_loc rfl th30 rfl rfl th28 (by decide) hb2 ⟨rfl, rfl, rfl⟩
  apply u_guard
  · exact GC.f _
  · intro hg; try simp only [hg, cnd_true]; try simp only [hg, cnd_true, Bool.true_and]
    refine o_ld_loc rfl th28 rfl hb2 rfl ⟨rfl, rfl, rfl⟩
  apply u_guard
  · exact GC.f _
  · intro hg; try simp only [hg, cnd_true]; try simp only [hg, cnd_true, Bool.true_and]
    refine o_pcall (s25 e.deltas okd) rfl ⟨rfl, rfl, rfl⟩
  refine u_step (o_pick_or rfl rfl rfl ?_)
  refine u_step (o_assign rfl ?_)
  refine u_nil ?_
  refine hK3 _ ?_
  refine WP.ret ?_
  refine ret_ok rfl ?_ (by omega) (fun t ht => (hk2 t (by omega)))
  -- ret 1
  rfl

theorem fn13 : FnOk Tryz.prog 13 13 [4] (bodyOf Tryz.f13) := ⟨Tryz.f13, Tryz.func13, by kernel_rfl, by decide, by kernel_rfl, by kernel_rfl⟩
theorem s13 (f : Flt) (e : Etr) (ok : OkE e) (okd : ∀ d ∈ e.deltas, szV d.value ≤ 1099511627776) : PSpec Tryz.prog 13 [.d (encF f), .d (encE e)] (.d (.bool (largeF f e))) := by
  refine PSpec.of fn13 (by simp) fun o nk => ?_
  refine WP.seq fun K1 hK1 => ?_
  refine WP.reg tabOk rfl ?_
  refine u_step (g_box rfl fun o2 hb2 hk2 => ?_)
  refine u_step (g_box rfl fun o3 hb3 hk3 => ?_)
  have hb2_3 := (hk3 _ (by omega)).trans hb2
  refine u_step (o_assign rfl ?_)
  refine u_nil ?_
  refine hK1 _ ?_
  refine WP.seq fun K4 hK4 => ?_
  refine WP.reg tabOk rfl ?_
  refine u_step (o_fa_loc rfl th24 rfl rfl th22 (by decide) hb2_3 ?_)
  refine u_step (o_ld_loc rfl th22 rfl hb2_3 rfl ?_)
  refine u_step (o_len_sl rfl th22 rfl ?_)
  refine u_step (o_bin_int rfl rfl (by decide) rfl ?_)
  refine u_step (o_move rfl ?_)
  apply u_guard
  · exact GC.f _
  · intro hg
    refine o_ld_agg rfl th30 rfl hb3 rfl rfl rfl ⟨rfl, rfl, rfl⟩
  apply u_guard
  · exact GC.f _
  · intro hg; try simp only [hg, cnd_true]; try simp only [hg, cnd_true, Bool.true_and]
    refine o_pcall (s22 e ok okd) rfl ⟨rfl, rfl, rfl⟩
  refine u_step (o_pick_or rfl rfl rfl ?_)
  refine u_step (o_assign rfl ?_)
  refine u_nil ?_
  refine hK4 _ ?_
  refine WP.ret ?_
  refine ret_ok rfl ?_ (by omega) (fun t ht => (hk3 t (by omega)).trans ((hk2 t (by omega))))
  -- ret 1
  refine congrArg D.bool ?_
  simp only [largeF, List.length_map, lt50]

end Go.Proofs.YtpkcbdhjnnnkbaaGreat.Abs

set_option linter.unusedVariables false
set_option linter.unusedSimpArgs false
set_option maxRecDepth 10000
namespace Go.Proofs.YtpkcbdhjnnnkbaaGreat.Abs
open Go
/-- How many entries match, up to the one that ends the stream. -/
noncomputable def countN (f : Flt) : List Etr → Nat
  | [] => 0
  | e :: r => (if matchV f e = true then 1 else 0) + if endsV f e = true then 0 else countN f r
theorem countN_at {f : Flt} {l : List Etr} {i : Nat} (h : i < l.length) : countN f (l.drop i) = (if matchV f (l[i]'h) = true then 1 else 0) + if endsV f (l[i]'h) = true then 0 else countN f (l.drop (i + 1)) := by
  rw [List.drop_eq_getElem_cons h, countN]
theorem countN_le (f : Flt) : ∀ l : List Etr, countN f l ≤ l.length
  | [] => by simp [countN]
  | e :: l => by
    have := countN_le f l
    simp only [countN, List.length_cons]
    split <;> split <;> omega

theorem fn21 : FnOk Tryz.prog 21 24 [4] (bodyOf Tryz.f21) := ⟨Tryz.f21, Tryz.func21, by kernel_rfl, by decide, by kernel_rfl, by kernel_rfl⟩
theorem s21 (f : Flt) (l : List Etr) (okf : OkF f) (ok : ∀ e ∈ l, OkE e) : PSpec Tryz.prog 21 [.d (encF f), .d (.sl 17 (l.map encE))] (.d (.int .i64 (countN f l : Nat))) := by
  refine PSpec.bd fun hbd => ?_
  have hx : l.length ≤ 9223372036854775807 := by simpa using hbd.2.1.1
  have hcl := countN_le f l
  refine PSpec.of fn21 (by simp) fun o nk => ?_
  refine WP.seq fun K1 hK1 => ?_
  refine WP.reg tabOk rfl ?_
  refine u_step (g_box rfl fun o2 hb2 hk2 => ?_)
  refine u_step (o_assign rfl ?_)
  refine u_nil ?_
  refine hK1 _ ?_
  refine WP.seq fun K3 hK3 => ?_
  refine WP.reg tabOk rfl ?_
  refine u_step (o_assign rfl ?_)
  refine u_nil ?_
  refine hK3 _ ?_
  refine WP.seq fun K4 hK4 => ?_
  refine WP.seq fun K5 hK5 => ?_
  refine WP.reg tabOk rfl ?_
  refine u_step (o_move rfl ?_)
  refine u_step (o_len_sl rfl th34 rfl ?_)
  refine u_step (o_move rfl ?_)
  refine u_nil ?_
  refine hK5 _ ?_
  refine WP.block ?_
  refine WP.loopL (ι := Nat × Nat × (Nat → Option AO) × Nat) (fun ⟨i, n, o2, nk2⟩ => ⟨al [(2, .loc nk 0), (5, .d (.int .i64 (n : Nat))), (8, .d (.sl 17 (l.map encE))), (9, .d (.int .i64 (l.map encE).length)), (10, .d (.int .i64 i))], o2, nk2⟩) (fun ⟨i, n, o2, nk2⟩ => i ≤ l.length ∧ n ≤ i ∧ nk < nk2 ∧ n + countN f (l.drop i) = countN f l ∧ o2 nk = some (.box ([D.str f.coll, .sl 1 (f.path.map .str), .int .i64 f.kinds].map .d)) ∧ ∀ t, t < nk → o2 t = o t) (fun ⟨i, n, o2, nk2⟩ => l.length - i) (fun ⟨i, n, o2, nk2⟩ hA => ?_) ⟨0, 0, o2, (nk + 1)⟩ ?_ ?_
  ·
    obtain ⟨hle, hni, hnk, hcn, hob, hfr⟩ := hA
    refine WP.seq fun K6 hK6 => ?_
    refine WP.reg tabOk rfl ?_
    refine u_step (o_bin_int rfl rfl (by decide) rfl ?_)
    refine u_nil ?_
    refine hK6 _ ?_
    refine WP.seq fun K7 hK7 => ?_
    refine WP.cond rfl (fun hc8 => ?_) (fun hc8 => ?_)
    ·
      try simp only [Q0, Q1, Q2, Q3, Q4, Q5, Q6, Q7, Q8, ge_iff_le, gt_iff_lt] at hc8
      have hm1 : (if matchV f l[i] = true then 1 else 0) ≤ 1 := by split <;> omega
      have hst := countN_at (f := f) (l := l) (i := i) (by omega)
      refine WP.skip ?_
      refine hK7 _ ?_
      refine WP.seq fun K9 hK9 => ?_
      refine WP.block ?_
      refine WP.seq fun K10 hK10 => ?_
      refine WP.reg tabOk rfl ?_
      first | refine u_step (o_ia_map rfl rfl th34 rfl th30 rfl (by omega) ?_) | refine u_step (o_ia_vs rfl rfl th34 rfl th30 rfl (by omega) ?_)
      refine u_step (o_ld_el rfl th30 rfl rfl ?_)
      refine u_step (g_alloc th30 rfl fun o11 hb11 hk11 => ?_)
      have hob_11 := (hk11 _ (by omega)).trans hob
      refine u_step0 (g_sta rfl rfl th30 rfl hb11 (by simp [valCells]) fun o12 hb12 hk12 => ?_)
      have hob_12 := (hk12 _ (by omega)).trans hob_11
      refine u_nil ?_
      refine hK10 _ ?_
      refine WP.seqJ ⟨al [(2, .loc nk 0), (5, .d (.int .i64 (n + (if matchV f l[i] = true then 1 else 0) : Nat))), (7, .loc nk2 0), (8, .d (.sl 17 (l.map encE))), (9, .d (.int .i64 (l.map encE).length)), (10, .d (.int .i64 i))], o12, (nk2 + 1)⟩ ?_ ?_
      ·
        refine WP.seq fun K13 hK13 => ?_
        refine WP.reg tabOk rfl ?_
        refine u_step (o_ld_agg rfl th24 rfl hob_12 rfl rfl rfl ?_)
        refine u_step (o_ld_agg rfl th30 rfl hb12 rfl rfl rfl ?_)
        refine u_step (o_pcall (s17 f l[i] okf (ok _ (List.getElem_mem _))) rfl ?_)
        refine u_nil ?_
        refine hK13 _ ?_
        refine WP.cond rfl (fun hc14 => ?_) (fun hc14 => ?_)
        ·
          try simp only [Q0, Q1, Q2, Q3, Q4, Q5, Q6, Q7, Q8, ge_iff_le, gt_iff_lt] at hc14
          refine WP.reg tabOk rfl ?_
          refine u_step (o_move rfl ?_)
          refine u_step (o_bin_int rfl rfl (by decide) rfl ?_)
          refine u_step (o_assign rfl ?_)
          refine u_nil ?_
          refine Le.al ?_
          simp only [List.forall_mem_cons]
          have hl := hc14
          refine ⟨rfl, ?_, rfl, rfl, rfl, rfl, by simp⟩
          first | (rw [if_pos hl]; exact cnt (by omega)) | (rw [if_neg (by simpa using hl)]; rfl)
        ·
          try simp only [Q0, Q1, Q2, Q3, Q4, Q5, Q6, Q7, Q8, ge_iff_le, gt_iff_lt] at hc14
          refine WP.skip ?_
          refine Le.al ?_
          simp only [List.forall_mem_cons]
          have hl := hc14
          refine ⟨rfl, ?_, rfl, rfl, rfl, rfl, by simp⟩
          first | (rw [if_pos hl]; exact cnt (by omega)) | (rw [if_neg (by simpa using hl)]; rfl)
      ·
        refine WP.seq fun K15 hK15 => ?_
        refine WP.reg tabOk rfl ?_
        refine u_step (o_ld_agg rfl th24 rfl hob_12 rfl rfl rfl ?_)
        refine u_step (o_ld_agg rfl th30 rfl hb12 rfl rfl rfl ?_)
        refine u_step (o_pcall (s19 f l[i] okf (ok _ (List.getElem_mem _))) rfl ?_)
        refine u_nil ?_
        refine hK15 _ ?_
        refine WP.cond rfl (fun hc16 => ?_) (fun hc16 => ?_)
        ·
          try simp only [Q0, Q1, Q2, Q3, Q4, Q5, Q6, Q7, Q8, ge_iff_le, gt_iff_lt] at hc16
          refine WP.exit ?_
          refine hK4 _ ?_
          refine WP.seq fun K17 hK17 => ?_
          refine WP.reg tabOk rfl ?_
          refine u_step (o_move rfl ?_)
          refine u_step (o_assign rfl ?_)
          refine u_nil ?_
          refine hK17 _ ?_
          refine WP.ret ?_
          refine ret_ok rfl ?_ (by omega) (fun t ht => (hk12 t (by omega)).trans ((hk11 t (by omega)).trans ((hfr t (by omega)))))
          -- ret 1
          have hl := hc16
          rw [← hcn, hst, show (if endsV f l[i] = true then 0 else countN f (l.drop (i + 1))) = 0 from if_pos hl]; rfl
        ·
          try simp only [Q0, Q1, Q2, Q3, Q4, Q5, Q6, Q7, Q8, ge_iff_le, gt_iff_lt] at hc16
          refine WP.skip ?_
          refine hK9 _ ?_
          refine WP.reg tabOk rfl ?_
          refine u_step (o_bin_int rfl rfl (by decide) rfl ?_)
          refine u_step (o_move rfl ?_)
          refine u_nil ?_
          -- back
          have hl := hc16
          refine ⟨⟨i + 1, n + (if matchV f l[i] = true then 1 else 0), o12, (nk2 + 1)⟩, ⟨by omega, by split <;> omega, by omega, ?_, hob_12, (fun t ht => (hk12 t (by omega)).trans ((hk11 t (by omega)).trans ((hfr t (by omega)))))⟩, by simp only; omega, ?_⟩
          · rw [← hcn, hst, show (if endsV f l[i] = true then 0 else countN f (l.drop (i + 1))) = countN f (l.drop (i + 1)) from if_neg (by simpa using hl)]; omega
          · refine Le.al ?_
            simp only [List.forall_mem_cons]
            exact ⟨rfl, rfl, rfl, rfl, cnt (by omega), by simp⟩
    ·
      try simp only [Q0, Q1, Q2, Q3, Q4, Q5, Q6, Q7, Q8, ge_iff_le, gt_iff_lt] at hc8
      refine WP.exit ?_
      refine hK4 _ ?_
      refine WP.seq fun K18 hK18 => ?_
      refine WP.reg tabOk rfl ?_
      refine u_step (o_move rfl ?_)
      refine u_step (o_assign rfl ?_)
      refine u_nil ?_
      refine hK18 _ ?_
      refine WP.ret ?_
      refine ret_ok rfl ?_ (by omega) (fun t ht => (hfr t (by omega)))
      -- ret 2
      have e : l.drop i = [] := List.drop_eq_nil_of_le (by omega)
      rw [← hcn, e, countN]; rfl
  ·
    exact ⟨by omega, by omega, by omega, by simp, hb2, (fun t ht => (hk2 t (by omega)))⟩
  ·
    refine Le.al ?_
    simp only [List.forall_mem_cons]
    exact ⟨rfl, rfl, rfl, rfl, rfl, by simp⟩

end Go.Proofs.YtpkcbdhjnnnkbaaGreat.Abs

set_option linter.unusedVariables false
set_option linter.unusedSimpArgs false
set_option maxRecDepth 10000
namespace Go.Proofs.YtpkcbdhjnnnkbaaGreat.Abs
open Go
theorem PSpec.le1 {P : Program} {f : FuncId} {x y : D} {r : SV} (h : PSpec P f [.d y] r) (hl : D.le x y) : PSpec P f [.d x] r := h.le ⟨hl, trivial⟩
theorem PSpec.le2 {P : Program} {f : FuncId} {x y x2 y2 : D} {r : SV} (h : PSpec P f [.d y, .d y2] r) (hl : D.le x y) (hl2 : D.le x2 y2) : PSpec P f [.d x, .d x2] r := h.le ⟨hl, hl2, trivial⟩
def eA : Etr := ⟨0, 6, [99], [], zeroV, zeroV, [], 0, 0⟩
def eB : Etr := ⟨0, 5, [100], [], zeroV, zeroV, [], 0, 0⟩
def fA : Flt := ⟨[99], [], 96⟩
def fB : Flt := ⟨[], [], 1⟩
theorem ok_zero : rngV zeroV ∧ szV zeroV ≤ 1099511627776 := by simp [zeroV, rngV, rngVs, szV, szVs, szN]
theorem okA : OkE eA := ⟨ok_zero.1, ok_zero.2, ok_zero.1, ok_zero.2, fun _ d hd => by cases hd⟩
theorem okB : OkE eB := ⟨ok_zero.1, ok_zero.2, ok_zero.1, ok_zero.2, fun _ d hd => by cases hd⟩
theorem okfA : OkF fA := ⟨by decide, by decide⟩
theorem okfB : OkF fB := ⟨by decide, by decide⟩
theorem leA : D.le (.agg [.int .i64 0, .int .i64 6, .str [99], .str [], .int .i64 0, .int .i64 0, .str [], .nil, .nil, .int .i64 0, .int .i64 0, .str [], .nil, .nil, .nil, .int .i64 0, .int .i64 0]) (encE eA) := by simp [encE, eA, valCells, zeroV, Val.kind, Val.int, Val.text, Val.items, Val.names, encVs, D.le, D.les]
theorem leB : D.le (.agg [.int .i64 0, .int .i64 5, .str [100], .str [], .int .i64 0, .int .i64 0, .str [], .nil, .nil, .int .i64 0, .int .i64 0, .str [], .nil, .nil, .nil, .int .i64 0, .int .i64 0]) (encE eB) := by simp [encE, eB, valCells, zeroV, Val.kind, Val.int, Val.text, Val.items, Val.names, encVs, D.le, D.les]
theorem lefA : D.le (.agg [.str [99], .nil, .int .i64 ((ofN [6, 5] 0 : Nat) : Int)]) (encF fA) := by
  show D.le (.agg [.str [99], .nil, .int .i64 96]) (encF fA)
  simp [encF, fA, D.le, D.les]
theorem lefB : D.le (.agg [.str [], .nil, .int .i64 1]) (encF fB) := by simp [encF, fB, D.le, D.les]
theorem mayE_A : mayE eA = true := by simp [mayE, eA, namesE, valuesE, hasC, hasT, hasI, hasD, hasS, collV, noneV, zeroV, Val.kind, Val.int, Val.text, Val.items, Val.names]
theorem mayE_B : mayE eB = true := by simp [mayE, eB, namesE, valuesE, hasC, hasT, hasI, hasD, hasS, collV, noneV, zeroV, Val.kind, Val.int, Val.text, Val.items, Val.names]
theorem mayF_A : mayF fA = true := by decide
theorem mayF_B : mayF fB = false := by decide
theorem match_A : matchV fA eA = true := by
  simp only [matchV, mayE_A, mayF_A]
  decide
theorem match_B : matchV fA eB = false := by
  simp only [matchV, mayE_B, mayF_A]
  decide
theorem ends_A : endsV fA eA = true := by
  simp only [endsV, mayE_A, mayF_A]
  decide
theorem ends_B : endsV fA eB = false := by
  simp only [endsV, mayE_B, mayF_A]
  decide
theorem count_BAA : countN fA [eB, eA, eA] = 1 := by
  simp [countN, match_A, match_B, ends_A, ends_B]
theorem leBAA : D.le (.sl 17 [.agg [.int .i64 0, .int .i64 5, .str [100], .str [], .int .i64 0, .int .i64 0, .str [], .nil, .nil, .int .i64 0, .int .i64 0, .str [], .nil, .nil, .nil, .int .i64 0, .int .i64 0], .agg [.int .i64 0, .int .i64 6, .str [99], .str [], .int .i64 0, .int .i64 0, .str [], .nil, .nil, .int .i64 0, .int .i64 0, .str [], .nil, .nil, .nil, .int .i64 0, .int .i64 0], .agg [.int .i64 0, .int .i64 6, .str [99], .str [], .int .i64 0, .int .i64 0, .str [], .nil, .nil, .int .i64 0, .int .i64 0, .str [], .nil, .nil, .nil, .int .i64 0, .int .i64 0]]) (.sl 17 ([eB, eA, eA].map encE)) := ⟨rfl, leB, leA, leA, trivial⟩
theorem okBAA : ∀ e ∈ [eB, eA, eA], OkE e := by
  intro e he
  simp at he
  rcases he with rfl | rfl
  · exact okB
  · exact okA

theorem fn14 : FnOk Tryz.prog 14 52 [0] (bodyOf Tryz.f14) := ⟨Tryz.f14, Tryz.func14, by kernel_rfl, by decide, by kernel_rfl, by kernel_rfl⟩
theorem s14  : PSpec Tryz.prog 14 [] (.d (.bool true)) := by
  refine PSpec.of fn14 (by simp) fun o nk => ?_
  refine WP.seq fun K1 hK1 => ?_
  refine WP.reg tabOk rfl ?_
  refine u_step (o_assign rfl ?_)
  refine u_nil ?_
  refine hK1 _ ?_
  refine WP.seq fun K2 hK2 => ?_
  refine WP.reg tabOk rfl ?_
  refine u_step (o_bs rfl th37 rfl th3 rfl rfl (by decide) rfl (by decide) (by decide) ?_)
  refine u_step (o_pcall (s23 [6, 5]) rfl ?_)
  refine u_step (o_bu rfl th24 rfl rfl ?_)
  refine u_step (g_alloc th24 rfl fun o3 hb3 hk3 => ?_)
  refine u_step0 (g_sta rfl rfl th24 rfl hb3 (by first | (simp; done) | (simp [D.leaves, D.width, valCells]; done) | decide) fun o4 hb4 hk4 => ?_)
  refine u_nil ?_
  refine hK2 _ ?_
  refine WP.seq fun K5 hK5 => ?_
  refine WP.reg tabOk rfl ?_
  refine u_step (o_bu rfl th30 rfl rfl ?_)
  refine u_step (o_bu rfl th30 rfl rfl ?_)
  refine u_step (g_alloc th30 rfl fun o6 hb6 hk6 => ?_)
  have hb4_6 := (hk6 _ (by omega)).trans hb4
  refine u_step (g_alloc th30 rfl fun o7 hb7 hk7 => ?_)
  have hb4_7 := (hk7 _ (by omega)).trans hb4_6
  have hb6_7 := (hk7 _ (by omega)).trans hb6
  refine u_step0 (g_sta rfl rfl th30 rfl hb6_7 (by first | (simp; done) | (simp [D.leaves, D.width, valCells]; done) | decide) fun o8 hb8 hk8 => ?_)
  have hb4_8 := (hk8 _ (by omega)).trans hb4_7
  have hb7_8 := (hk8 _ (by omega)).trans hb7
  refine u_step0 (g_sta rfl rfl th30 rfl hb7_8 (by first | (simp; done) | (simp [D.leaves, D.width, valCells]; done) | decide) fun o9 hb9 hk9 => ?_)
  have hb4_9 := (hk9 _ (by omega)).trans hb4_8
  have hb8_9 := (hk9 _ (by omega)).trans hb8
  refine u_nil ?_
  refine hK5 _ ?_
  refine WP.seq fun K10 hK10 => ?_
  refine WP.reg tabOk rfl ?_
  refine u_step (o_ld_agg rfl th24 rfl hb4_9 rfl rfl rfl ?_)
  refine u_step (o_pcall (PSpec.le1 (s15 fA okfA) lefA) rfl ?_)
  refine u_step (o_move rfl ?_)
  apply u_guard
  · exact GC.t _
  · intro hg
    refine o_bu rfl th24 rfl rfl ⟨rfl, rfl, rfl⟩
  apply u_guard
  · exact GC.t _
  · intro hg; try simp only [hg, cnd_true]; try simp only [hg, cnd_true, Bool.true_and]
    refine o_pcall (PSpec.le1 (s15 fB okfB) lefB) rfl ⟨rfl, rfl, rfl⟩
  apply u_guard
  · exact GC.t _
  · intro hg; try simp only [hg, cnd_true]; try simp only [hg, cnd_true, Bool.true_and]
    refine o_not rfl ⟨rfl, rfl, rfl⟩
  refine u_step (o_pick_and rfl rfl rfl ?_)
  refine u_step (o_move rfl ?_)
  apply u_guard
  · exact GC.t _
  · intro hg
    refine o_ld_agg rfl th24 rfl hb4_9 rfl rfl rfl ⟨rfl, rfl, rfl⟩
  apply u_guard
  · exact GC.t _
  · intro hg
    refine o_ld_agg rfl th30 rfl hb8_9 rfl rfl rfl ⟨rfl, rfl, rfl⟩
  apply u_guard
  · exact GC.t _
  · intro hg; try simp only [hg, cnd_true]; try simp only [hg, cnd_true, Bool.true_and]
    refine o_pcall (PSpec.le2 (s17 fA eA okfA okA) lefA leA) rfl ⟨rfl, rfl, rfl⟩
  refine u_step (o_pick_and rfl rfl rfl ?_)
  refine u_step (o_move rfl ?_)
  apply u_guard
  · exact GC.t _
  · intro hg
    refine o_ld_agg rfl th24 rfl hb4_9 rfl rfl rfl ⟨rfl, rfl, rfl⟩
  apply u_guard
  · exact GC.t _
  · intro hg
    refine o_ld_agg rfl th30 rfl hb9 rfl rfl rfl ⟨rfl, rfl, rfl⟩
  apply u_guard
  · exact GC.t _
  · intro hg; try simp only [hg, cnd_true]; try simp only [hg, cnd_true, Bool.true_and]
    refine o_pcall (PSpec.le2 (s17 fA eB okfA okB) lefA leB) rfl ⟨rfl, rfl, rfl⟩
  apply u_guard
  · exact GC.t _
  · intro hg; try simp only [hg, cnd_true]; try simp only [hg, cnd_true, Bool.true_and]
    refine o_not rfl ⟨rfl, rfl, rfl⟩
  refine u_step (o_pick_and rfl rfl rfl ?_)
  refine u_step (o_move rfl ?_)
  apply u_guard
  · exact GC.t _
  · intro hg
    refine o_ld_agg rfl th24 rfl hb4_9 rfl rfl rfl ⟨rfl, rfl, rfl⟩
  apply u_guard
  · exact GC.t _
  · intro hg
    refine o_ld_agg rfl th30 rfl hb8_9 rfl rfl rfl ⟨rfl, rfl, rfl⟩
  apply u_guard
  · exact GC.t _
  · intro hg; try simp only [hg, cnd_true]; try simp only [hg, cnd_true, Bool.true_and]
    refine o_pcall (PSpec.le2 (s19 fA eA okfA okA) lefA leA) rfl ⟨rfl, rfl, rfl⟩
  refine u_step (o_pick_and rfl rfl rfl ?_)
  refine u_step (o_move rfl ?_)
  apply u_guard
  · exact GC.t _
  · intro hg
    refine o_ld_agg rfl th24 rfl hb4_9 rfl rfl rfl ⟨rfl, rfl, rfl⟩
  apply u_guard
  · exact GC.t _
  · intro hg
    refine o_ld_agg rfl th30 rfl hb9 rfl rfl rfl ⟨rfl, rfl, rfl⟩
  apply u_guard
  · exact GC.t _
  · intro hg; try simp only [hg, cnd_true]; try simp only [hg, cnd_true, Bool.true_and]
    refine o_pcall (PSpec.le2 (s19 fA eB okfA okB) lefA leB) rfl ⟨rfl, rfl, rfl⟩
  apply u_guard
  · exact GC.t _
  · intro hg; try simp only [hg, cnd_true]; try simp only [hg, cnd_true, Bool.true_and]
    refine o_not rfl ⟨rfl, rfl, rfl⟩
  refine u_step (o_pick_and rfl rfl rfl ?_)
  refine u_step (o_move rfl ?_)
  apply u_guard
  · exact GC.t _
  · intro hg
    refine o_ld_agg rfl th24 rfl hb4_9 rfl rfl rfl ⟨rfl, rfl, rfl⟩
  apply u_guard
  · exact GC.t _
  · intro hg
    refine o_ld_agg rfl th30 rfl hb9 rfl rfl rfl ⟨rfl, rfl, rfl⟩
  apply u_guard
  · exact GC.t _
  · intro hg
    refine o_ld_agg rfl th30 rfl hb8_9 rfl rfl rfl ⟨rfl, rfl, rfl⟩
  apply u_guard
  · exact GC.t _
  · intro hg
    refine o_ld_agg rfl th30 rfl hb8_9 rfl rfl rfl ⟨rfl, rfl, rfl⟩
  apply u_guard
  · exact GC.t _
  · intro hg; try simp only [hg, cnd_true]; try simp only [hg, cnd_true, Bool.true_and]
    refine o_bs rfl th34 rfl th30 rfl rfl (by decide) rfl (by decide) (by decide) ⟨rfl, rfl, rfl⟩
  apply u_guard
  · exact GC.t _
  · intro hg; try simp only [hg, cnd_true]; try simp only [hg, cnd_true, Bool.true_and]
    refine o_pcall (PSpec.le2 (s21 fA [eB, eA, eA] okfA okBAA) lefA leBAA) rfl ⟨rfl, rfl, rfl⟩
  apply u_guard
  · exact GC.t _
  · intro hg; try simp only [hg, cnd_true]; try simp only [hg, cnd_true, Bool.true_and]
    refine o_bin_int rfl rfl (by decide) rfl ⟨rfl, rfl, rfl⟩
  refine u_step (o_pick_and rfl rfl rfl ?_)
  refine u_step (o_move rfl ?_)
  apply u_guard
  · exact GC.t _
  · intro hg
    refine o_bs rfl th37 rfl th3 rfl rfl (by decide) rfl (by decide) (by decide) ⟨rfl, rfl, rfl⟩
  apply u_guard
  · exact GC.t _
  · intro hg; try simp only [hg, cnd_true]; try simp only [hg, cnd_true, Bool.true_and]
    refine o_pcall (s23 [2]) rfl ⟨rfl, rfl, rfl⟩
  apply u_guard
  · exact GC.t _
  · intro hg; try simp only [hg, cnd_true]; try simp only [hg, cnd_true, Bool.true_and]
    refine o_bin_int rfl rfl (by decide) rfl ⟨rfl, rfl, rfl⟩
  refine u_step (o_pick_and rfl rfl rfl ?_)
  refine u_step (o_assign rfl ?_)
  refine u_nil ?_
  refine hK10 _ ?_
  refine WP.ret ?_
  refine ret_ok rfl ?_ (by omega) (fun t ht => (hk9 t (by omega)).trans ((hk8 t (by omega)).trans ((hk7 t (by omega)).trans ((hk6 t (by omega)).trans ((hk4 t (by omega)).trans ((hk3 t (by omega))))))))
  -- ret 1
  refine congrArg D.bool ?_
  simp only [mayF_A, mayF_B, match_A, match_B, ends_A, ends_B, count_BAA]
  rfl

theorem fn3 : FnOk Tryz.prog 3 35 [4] (bodyOf Tryz.f3) := ⟨Tryz.f3, Tryz.func3, by kernel_rfl, by decide, by kernel_rfl, by kernel_rfl⟩
theorem s3 (f : Flt) (e : Etr) (okf : OkF f) (ok : OkE e) (okd : ∀ d ∈ e.deltas, szV d.value ≤ 1099511627776) : PSpec Tryz.prog 3 [.d (encF f), .d (encE e)] (.d (.bool true)) := by
  refine PSpec.of fn3 (by simp) fun o nk => ?_
  refine WP.seq fun K1 hK1 => ?_
  refine WP.reg tabOk rfl ?_
  refine u_step (g_box rfl fun o2 hb2 hk2 => ?_)
  refine u_step (g_box rfl fun o3 hb3 hk3 => ?_)
  have hb2_3 := (hk3 _ (by omega)).trans hb2
  refine u_step (o_assign rfl ?_)
  refine u_nil ?_
  refine hK1 _ ?_
  refine WP.seq fun K4 hK4 => ?_
  refine WP.seq fun K5 hK5 => ?_
  refine WP.reg tabOk rfl ?_
  refine u_step (o_ld_agg rfl th24 rfl hb2_3 rfl rfl rfl ?_)
  refine u_step (o_ld_agg rfl th30 rfl hb3 rfl rfl rfl ?_)
  refine u_step (o_pcall (s13 f e ok okd) rfl ?_)
  refine u_nil ?_
  refine hK5 _ ?_
  refine WP.cond rfl (fun hc6 => ?_) (fun hc6 => ?_)
  ·
    try simp only [Q0, Q1, Q2, Q3, Q4, Q5, Q6, Q7, Q8, ge_iff_le, gt_iff_lt] at hc6
    refine WP.seq fun K7 hK7 => ?_
    refine WP.reg tabOk rfl ?_
    refine u_step (o_pcall (s14) rfl ?_)
    refine u_step (o_assign rfl ?_)
    refine u_nil ?_
    refine hK7 _ ?_
    refine WP.ret ?_
    refine ret_ok rfl ?_ (by omega) (fun t ht => (hk3 t (by omega)).trans ((hk2 t (by omega))))
    -- ret 1
    first | rfl | (refine congrArg D.bool ?_; simp)
  ·
    try simp only [Q0, Q1, Q2, Q3, Q4, Q5, Q6, Q7, Q8, ge_iff_le, gt_iff_lt] at hc6
    refine WP.skip ?_
    refine hK4 _ ?_
    refine WP.seq fun K8 hK8 => ?_
    refine WP.drw tabOk (by kernel_rfl) rfl (by kernel_rfl) ?_
    refine d_step (o_pcall (s14) rfl ⟨rfl, rfl, rfl⟩) ?_
    refine d_step (o_move rfl ⟨rfl, rfl, rfl⟩) ?_
    apply d_guard
    · exact GC.t _
    · intro hg
      refine o_ld_agg rfl th24 rfl hb2_3 rfl rfl rfl ⟨rfl, rfl, rfl⟩
    apply d_guard
    · exact GC.t _
    · intro hg; try simp only [hg, cnd_true]; try simp only [hg, cnd_true, Bool.true_and]
      refine o_pcall (s15 f okf) rfl ⟨rfl, rfl, rfl⟩
    apply d_guard
    · exact GC.t _
    · intro hg
      refine o_ld_agg rfl th24 rfl hb2_3 rfl rfl rfl ⟨rfl, rfl, rfl⟩
    apply d_guard
    · exact GC.t _
    · intro hg; try simp only [hg, cnd_true]; try simp only [hg, cnd_true, Bool.true_and]
      refine o_pcall (s16 f) rfl ⟨rfl, rfl, rfl⟩
    apply d_guard
    · exact GC.t _
    · intro hg; try simp only [hg, cnd_true]; try simp only [hg, cnd_true, Bool.true_and]
      refine o_bin_eqb rfl rfl th4 rfl ⟨rfl, rfl, rfl⟩
    refine d_step (o_pick_and rfl rfl rfl ⟨rfl, rfl, rfl⟩) ?_
    refine d_step (o_move rfl ⟨rfl, rfl, rfl⟩) ?_
    apply d_guard
    · exact GC.t _
    · intro hg
      refine o_ld_agg rfl th24 rfl hb2_3 rfl rfl rfl ⟨rfl, rfl, rfl⟩
    apply d_guard
    · exact GC.t _
    · intro hg
      refine o_ld_agg rfl th30 rfl hb3 rfl rfl rfl ⟨rfl, rfl, rfl⟩
    apply d_guard
    · exact GC.t _
    · intro hg; try simp only [hg, cnd_true]; try simp only [hg, cnd_true, Bool.true_and]
      refine o_pcall (s17 f e okf ok) rfl ⟨rfl, rfl, rfl⟩
    apply d_guard
    · exact GC.t _
    · intro hg
      refine o_ld_agg rfl th24 rfl hb2_3 rfl rfl rfl ⟨rfl, rfl, rfl⟩
    apply d_guard
    · exact GC.t _
    · intro hg
      refine o_ld_agg rfl th30 rfl hb3 rfl rfl rfl ⟨rfl, rfl, rfl⟩
    apply d_guard
    · exact GC.t _
    · intro hg; try simp only [hg, cnd_true]; try simp only [hg, cnd_true, Bool.true_and]
      refine o_pcall (s18 f e ok) rfl ⟨rfl, rfl, rfl⟩
    apply d_guard
    · exact GC.t _
    · intro hg; try simp only [hg, cnd_true]; try simp only [hg, cnd_true, Bool.true_and]
      refine o_bin_eqb rfl rfl th4 rfl ⟨rfl, rfl, rfl⟩
    refine d_step (o_pick_and rfl rfl rfl ⟨rfl, rfl, rfl⟩) ?_
    refine d_step (o_move rfl ⟨rfl, rfl, rfl⟩) ?_
    apply d_guard
    · exact GC.t _
    · intro hg
      refine o_ld_agg rfl th24 rfl hb2_3 rfl rfl rfl ⟨rfl, rfl, rfl⟩
    apply d_guard
    · exact GC.t _
    · intro hg
      refine o_ld_agg rfl th30 rfl hb3 rfl rfl rfl ⟨rfl, rfl, rfl⟩
    apply d_guard
    · exact GC.t _
    · intro hg; try simp only [hg, cnd_true]; try simp only [hg, cnd_true, Bool.true_and]
      refine o_pcall (s19 f e okf ok) rfl ⟨rfl, rfl, rfl⟩
    apply d_guard
    · exact GC.t _
    · intro hg
      refine o_ld_agg rfl th24 rfl hb2_3 rfl rfl rfl ⟨rfl, rfl, rfl⟩
    apply d_guard
    · exact GC.t _
    · intro hg
      refine o_ld_agg rfl th30 rfl hb3 rfl rfl rfl ⟨rfl, rfl, rfl⟩
    apply d_guard
    · exact GC.t _
    · intro hg; try simp only [hg, cnd_true]; try simp only [hg, cnd_true, Bool.true_and]
      refine o_pcall (s20 f e ok) rfl ⟨rfl, rfl, rfl⟩
    apply d_guard
    · exact GC.t _
    · intro hg; try simp only [hg, cnd_true]; try simp only [hg, cnd_true, Bool.true_and]
      refine o_bin_eqb rfl rfl th4 rfl ⟨rfl, rfl, rfl⟩
    refine d_step (o_pick_and rfl rfl rfl ⟨rfl, rfl, rfl⟩) ?_
    refine d_step (o_assign rfl ⟨rfl, rfl, rfl⟩) ?_
    refine d_nil ?_
    refine hK8 _ ?_
    refine WP.ret ?_
    refine ret_ok rfl ?_ (by omega) (fun t ht => (hk3 t (by omega)).trans ((hk2 t (by omega))))
    -- ret 2
    first | rfl | (refine congrArg D.bool ?_; simp)

end Go.Proofs.YtpkcbdhjnnnkbaaGreat.Abs

/- The row's opening: what is read as data is held by values; its closing: what was read is there still. -/
set_option linter.unusedVariables false
set_option linter.unusedSimpArgs false
namespace Go.Proofs.YtpkcbdhjnnnkbaaGreat.Abs
open Go
open Go.ChangeShapes Go.WideShapes Go.ChangeAt Go.RowKit Go.WideElems

def Sof (w : World) : Nat → Prop := fun k => k < w.heap.size
/-- Values, cell by cell. -/
def RdC (w : World) (xs : List D) (cs : List Value) : Prop := cs.length = xs.length ∧ ∀ (i : Nat) (x : D) (v : Value), xs[i]? = some x → cs[i]? = some v → Rd w (Sof w) x v
def D.cl : D → List D
  | .agg xs => xs
  | x => [x]
def D.ok1 : D → Prop
  | .agg xs => xs.all D.leaf = true
  | _ => True
theorem val_of {w : World} {x : D} {cs : List Value} (h : RdC w x.cl cs) (ho : x.ok1) : ∃ v : Value, v.cells.toList = cs ∧ Rd w (Sof w) x v := by
  obtain ⟨h1, h2⟩ := h
  by_cases hx : x.leaf = true
  · have hc : x.cl = [x] := by cases x <;> first | rfl | (simp [D.leaf] at hx)
    rw [hc] at h1 h2
    match cs, h1 with
    | [v], _ =>
      have hr := h2 0 x v rfl rfl
      exact ⟨v, by rw [hr.leaf_cells hx], hr⟩
  · cases x <;> simp [D.leaf] at hx
    rename_i xs
    exact ⟨.agg cs.toArray, by simp [Value.cells], .agg xs cs ho h1 h2⟩
theorem rdC_one {w : World} {x : D} {v : Value} (h : Rd w (Sof w) x v) : RdC w [x] [v] := by
  refine ⟨rfl, fun i y u h1 h2 => ?_⟩
  match i with
  | 0 => simp at h1 h2; subst h1; subst h2; exact h
  | i + 1 => simp at h1
theorem rdC_nil {w : World} {cs : List Value} {o : Nat} (h : cs.length = o) : RdC w [] (cs.drop o) := ⟨by simp [h], fun i x v h => by simp at h⟩
theorem rdC_cat {w : World} {xs ys : List D} {cs : List Value} {o n : Nat} (h1 : RdC w xs ((cs.drop o).take n)) (hn : xs.length = n) (h2 : RdC w ys (cs.drop (o + n))) : RdC w (xs ++ ys) (cs.drop o) := by
  obtain ⟨a1, a2⟩ := h1
  obtain ⟨b1, b2⟩ := h2
  have hl : n ≤ (cs.drop o).length := by simp at a1 ⊢; omega
  have he : cs.drop o = (cs.drop o).take n ++ cs.drop (o + n) := by rw [← List.drop_drop]; exact (List.take_append_drop n _).symm
  refine ⟨by simp at b1 hl ⊢; omega, fun i x v hx hv => ?_⟩
  rcases Nat.lt_or_ge i xs.length with h | h
  · rw [List.getElem?_append_left h] at hx
    exact a2 i x v hx (by rw [List.getElem?_take, if_pos (by omega)]; exact hv)
  · rw [List.getElem?_append_right h] at hx
    refine b2 (i - xs.length) x v hx ?_
    rw [List.getElem?_drop] at hv ⊢
    rw [show o + n + (i - xs.length) = o + i by omega]; exact hv

theorem list_of {α : Type} {Q : Nat → α → Prop} : ∀ n, (∀ i, i < n → ∃ a, Q i a) → ∃ l : List α, l.length = n ∧ ∀ i a, l[i]? = some a → Q i a
  | 0, _ => ⟨[], rfl, by simp⟩
  | n + 1, h => by
    obtain ⟨l, h1, h2⟩ := list_of n fun i hi => h i (by omega)
    obtain ⟨a, ha⟩ := h n (by omega)
    refine ⟨l ++ [a], by simp [h1], fun i b hb => ?_⟩
    rcases Nat.lt_or_ge i l.length with hi | hi
    · rw [List.getElem?_append_left hi] at hb; exact h2 i b hb
    · rw [List.getElem?_append_right hi] at hb
      have : i - l.length = 0 := by
        rcases Nat.eq_zero_or_pos (i - l.length) with h' | h'
        · exact h'
        · rw [List.getElem?_eq_none (by simp; omega)] at hb; cases hb
      rw [this] at hb
      simp at hb
      subst hb
      rw [show i = n by omega]; exact ha
theorem mapM_some {α β : Type} {f : α → Option β} : ∀ {l : List α} {r : List β}, l.mapM f = some r → r.length = l.length ∧ ∀ (i : Nat) (a : α), l[i]? = some a → f a = r[i]?
  | [], r, h => by
    simp at h; subst h; exact ⟨rfl, by simp⟩
  | a :: l, r, h => by
    rw [List.mapM_cons] at h
    simp only [Option.bind_eq_bind, Option.bind_eq_some_iff, Option.pure_def, Option.some.injEq] at h
    obtain ⟨b, hb, r', hr, rfl⟩ := h
    obtain ⟨h1, h2⟩ := mapM_some hr
    refine ⟨by simp [h1], fun i x hx => ?_⟩
    match i with
    | 0 => simp at hx; subst hx; simpa using hb
    | i + 1 => simpa using h2 i x (by simpa using hx)
theorem cells_some {w : World} {b n : Nat} {a : Addr} {cs : List Value} (h : w.cells? b a n = some cs) : cs.length = n ∧ ∀ j, j < n → w.cell? (a.add j) = cs[j]? := by
  unfold World.cells? at h
  split at h
  · obtain ⟨h1, h2⟩ := mapM_some h
    rw [List.length_range] at h1
    exact ⟨h1, fun j hj => h2 j j (by rw [List.getElem?_range hj])⟩
  · cases h

section
variable {H : Type} {enc : TypeId × Value → H} {P : Program} {w : World} {base fuel : Nat} {spare : Nat → Bool} {held : Bool} {t e : TypeId} {cs : List Value} {x : DataW H × List MemPlace}

/-- Elements and their data. -/
def All2 {α : Type} (A : α → DataW H → Prop) (l : List α) (es : List (DataW H)) : Prop := l.length = es.length ∧ ∀ (i : Nat) (a : α) (y : DataW H), l[i]? = some a → es[i]? = some y → A a y
def SlD {α : Type} (A : α → DataW H → Prop) (l : List α) (d : DataW H) : Prop := (d = .nil ∧ l = []) ∨ ∃ es sp, d = .slice es sp ∧ All2 A l es

theorem rd_slice {α : Type} {z : Nat} (encA : α → D) (A : α → DataW H → Prop) (hu : P.underlying t = some (.slice e)) (hz : P.cellsOf e = z) (hz0 : 0 < z) (hzA : ∀ a, (encA a).cl.length = z) (hok : ∀ a, (encA a).ok1)
    (h : DataW.trod enc P w base spare held fuel t cs = some x)
    (he : ∀ n cs x, n < fuel → DataW.trod enc P w base spare held n e cs = some x → ∃ a, RdC w (encA a).cl cs ∧ A a x.1) :
    ∃ l : List α, RdC w [.sl z (l.map encA)] cs ∧ SlD A l x.1 := by
  rcases DataW.trod_slice hu h with ⟨rfl, rfl⟩ | ⟨a, len, cap, elems, rest, n, hf, rfl, rfl, hb, hlc, hcm, hlen, hel, _⟩
  · exact ⟨[], rdC_one (.emp _ _ _ (by omega)), .inl ⟨rfl, rfl⟩⟩
  · rw [hz] at hel
    have key : ∀ i, i < len → ∃ p : α × Value, (∃ cs', w.cells? base (a.add (i * z)) z = some cs' ∧ p.2.cells.toList = cs') ∧ Rd w (Sof w) (encA p.1) p.2 ∧ ∀ y, elems[i]? = some y → A p.1 y.1 := by
      intro i hi
      have h1 := hel i hi
      rw [List.getElem?_eq_getElem (by omega)] at h1
      obtain ⟨cs', h2, h3⟩ := Option.bind_eq_some_iff.1 h1
      obtain ⟨b, h4, h5⟩ := he n cs' _ (by omega) h3
      obtain ⟨v, h6, h7⟩ := val_of h4 (hok b)
      refine ⟨(b, v), ⟨cs', h2, h6⟩, h7, fun y hy => ?_⟩
      rw [List.getElem?_eq_getElem (by omega)] at hy
      injection hy with hy
      rw [← hy]; exact h5
    obtain ⟨l, hl1, hl2⟩ := list_of len key
    refine ⟨l.map (·.1), ?_, .inr ⟨_, _, rfl, by simp [hl1, hlen], fun i b y hb' hy => ?_⟩⟩
    · refine rdC_one ?_
      rcases Nat.eq_zero_or_pos len with h0 | h0
      · have : l = [] := List.eq_nil_of_length_eq_zero (by omega)
        subst this
        subst h0
        exact .emp _ _ _ (by simpa [maxLen] using hcm)
      · have hS : Sof w a.block := by
          obtain ⟨p, ⟨cs', h1, _⟩, _⟩ := key 0 h0
          obtain ⟨h2, h3⟩ := cells_some h1
          have h4 := h3 0 hz0
          rw [List.getElem?_eq_getElem (by omega)] at h4
          have := World.block_lt_of_cell? w _ h4
          rwa [add_block, add_block] at this
        have hlm : ((l.map (·.1)).map encA).length = len := by simp [hl1]
        rw [← hlm]
        refine .sl z _ a cap (l.map (·.2)) (by omega) (by simpa [maxLen] using hcm) hS (by simp [hl1]) (fun i y v hy hv => ?_) (fun i v hv => ?_) (fun i j v u hv hu' => ?_)
        · rw [List.getElem?_map, List.getElem?_map] at hy
          rw [List.getElem?_map] at hv
          cases hp : l[i]? with
          | none => rw [hp] at hv; cases hv
          | some p =>
            rw [hp] at hy hv
            simp at hy hv
            subst hy; subst hv
            exact (hl2 i p hp).2.1
        · rw [List.getElem?_map] at hv
          obtain ⟨p, hp, rfl⟩ := Option.map_eq_some_iff.1 hv
          obtain ⟨⟨cs', h1, h2⟩, _, _⟩ := hl2 i p hp
          have := (cells_some h1).1
          rw [← h2] at this
          simpa using this
        · rw [List.getElem?_map] at hv
          obtain ⟨p, hp, rfl⟩ := Option.map_eq_some_iff.1 hv
          obtain ⟨⟨cs', h1, h2⟩, _, _⟩ := hl2 i p hp
          obtain ⟨h3, h4⟩ := cells_some h1
          have hj : j < p.2.cells.size := (Array.getElem?_eq_some_iff.1 hu').1
          have hjz : j < z := by
            rw [← h2] at h3
            simp at h3
            omega
          have h5 := h4 j hjz
          rw [Addr_add_add] at h5
          rw [h5, ← h2]
          simpa using hu'
    · rw [List.getElem?_map] at hb' hy
      obtain ⟨p, hp, rfl⟩ := Option.map_eq_some_iff.1 hb'
      obtain ⟨q, hq, rfl⟩ := Option.map_eq_some_iff.1 hy
      exact (hl2 i p hp).2.2 q hq

theorem rd_int {k : IntKind} (hu : P.underlying t = some (.int k)) (h : DataW.trod enc P w base spare held fuel t cs = some x) : ∃ n, RdC w [.int k n] cs ∧ x.1 = .lit (.int k n) ∧ (Lit.int k n).wf = true := by
  obtain ⟨n, rfl, rfl, hw⟩ := DataW.trod_int hu h
  exact ⟨n, rdC_one (.int _ _), rfl, hw⟩
theorem rd_bool (hu : P.underlying t = some .bool) (h : DataW.trod enc P w base spare held fuel t cs = some x) : ∃ b, RdC w [.bool b] cs ∧ x.1 = .lit (.bool b) := by
  obtain ⟨b, rfl, rfl⟩ := DataW.trod_bool hu h
  exact ⟨b, rdC_one (.bool _), rfl⟩
theorem rd_str (hu : P.underlying t = some .string) (h : DataW.trod enc P w base spare held fuel t cs = some x) : ∃ s : List UInt8, RdC w [.str s] cs ∧ x.1 = .lit (.string s) := by
  obtain ⟨s, rfl, rfl, hs⟩ := DataW.trod_string hu h
  refine ⟨s.data.toList, rdC_one ?_, rfl⟩
  have he : (⟨s.data.toList.toArray⟩ : ByteArray) = s := by
    apply ByteArray.ext
    simp
  have := Rd.str (w := w) (S := Sof w) s.data.toList (by
    have hl : s.data.toList.length = s.size := by rw [Array.length_toList]; rfl
    unfold maxLen at hs; omega)
  rwa [he] at this
/-- A struct's fields. -/
theorem rd_struct {i : TI} {fs : List (Nat × Nat)} (hT : TOk P t i) (hk : i.k = .struct fs) (h : DataW.trod enc P w base spare held fuel t cs = some x) :
    ∃ (xs : List (DataW H × List MemPlace)) (n : Nat), n < fuel ∧ x.1 = .agg (xs.map (·.1)) ∧ cs.length = P.cellsOf t ∧ xs.length = fs.length ∧
      ∀ (i : Nat) (f : Nat × Nat), fs[i]? = some f → DataW.trod enc P w base spare held n f.2 ((cs.drop f.1).take (P.cellsOf f.2)) = xs[i]? := by
  obtain ⟨F, hF, rfl, _⟩ := hT.struct hk
  obtain ⟨xs, n, hf, hx, hl, hlen, hfs⟩ := DataW.trod_struct hF h
  refine ⟨xs, n, by omega, by rw [hx], hl, by simp [hlen], fun j f hj => ?_⟩
  rw [List.getElem?_map] at hj
  obtain ⟨g, hg, rfl⟩ := Option.map_eq_some_iff.1 hj
  exact hfs j g (by simpa using hg)
theorem wf_i64 {n : Int} (h : (Lit.int .i64 n).wf = true) : -9223372036854775808 ≤ n ∧ n ≤ 9223372036854775807 := bounds_i64 h
theorem wf_u8 {n : Int} (h : (Lit.int .u8 n).wf = true) : 0 ≤ n ∧ n ≤ 255 := bounds_u8 h
end

theorem rdv_struct {P : Program} {w W : World} {r : Reach} {base : Nat} {t : TypeId} {i : TI} {fs : List (Nat × Nat)} {x : D} {v : Value} (h : Value.okWide P W r base t v) (hT : TOk P t i) (hk : i.k = .struct fs) (hc : RdC w x.cl v.cells.toList) (hl : x = .agg x.cl) (ho : x.ok1) : Rd w (Sof w) x v := by
  obtain ⟨F, hF, _, _⟩ := hT.struct hk
  unfold Value.okWide at h
  rw [hF] at h
  obtain ⟨cs, rfl, _, _⟩ := h
  rw [hl] at hc ho ⊢
  have : cs = cs.toList.toArray := by simp
  rw [this]
  exact .agg _ _ ho (by simpa [Value.cells, D.cl] using hc.1) (fun j y u h1 h2 => hc.2 j y u (by simpa [D.cl] using h1) (by simpa [Value.cells] using h2))
theorem rdv_one {P : Program} {w W : World} {r : Reach} {base : Nat} {t : TypeId} {i : TI} {x : D} {v : Value} (h : Value.okWide P W r base t v) (hT : TOk P t i) (hk : i.k.agg = false) (hc : RdC w [x] v.cells.toList) : Rd w (Sof w) x v := by
  have hne : ∀ cs, v ≠ .agg cs := by
    rintro cs rfl
    have hk2 := hT.k
    unfold tkOf at hk2
    unfold Value.okWide Cell.okWide Cell.ok at h
    cases hu : P.underlying t with
    | none => rw [hu] at h; simp at h
    | some d =>
      rw [hu] at h hk2
      cases d <;> simp at h hk2
      all_goals first
        | (rw [← hk2] at hk; cases hk)
        | (rw [← hk2.2] at hk; cases hk)
  have hv : v.cells = #[v] := by
    cases v <;> first | rfl | exact absurd rfl (hne _)
  rw [hv] at hc
  exact hc.2 0 x v rfl rfl
/-! ### the close -/
section
variable {H : Type} {enc : TypeId × Value → H} {P : Program}
theorem post_of_below {f : Func} {s : ChangeSpec} {apart fresh handsOn again : Bool} {W W' : World} {args : Array Value} {v : Value} {ds gs : List (DataW H)} {before pa pv : List MemPlace}
    (hW : DataW.Whole enc P f.params.toList s.vars apart W args.toList ds gs before)
    (hres : ∀ (b : Nat) (sp : Nat → Bool) (hd : Bool), DataW.TrodAll enc P W' b sp hd f.resultTypes.toList (v.resultList f.resultTypes.size) (s.fn H (ds ++ gs)).results [])
    (hargs : ∀ sp : Nat → Bool, (∀ p ∈ before, sp p.block = true) → DataW.TrodAll enc P W' 0 sp true f.params.toList args.toList (s.fn H (ds ++ gs)).args pa)
    (hvars : ∀ sp : Nat → Bool, (∀ p ∈ before, sp p.block = true) → DataW.TrodVars enc P W' sp s.vars (s.fn H (ds ++ gs)).vars pv)
    (hps : before = pa ++ pv) (hb : Below W.heap.size W W')
    (hok : ∀ (j : Nat) (t : TypeId) (r : Value), f.resultTypes[j]? = some t → (v.resultList f.resultTypes.size)[j]? = some r → Value.okWide P W' .any 0 t r) :
    s.post enc P f apart fresh handsOn again W args v W' := by
  have hlt : ∀ p ∈ before, p.block < W.heap.size := fun p hp => hW.lt p hp
  have hold : ∀ p ∈ before, (fun b => decide (b < W.heap.size)) p.block = true := fun p hp => by simpa using hlt p hp
  refine ⟨ds, gs, before, [], pa, pv, hW, hres _ _ _, hargs _ hold, hvars _ hold, World.keptBut_mono (fun p hp => ⟨hp, ?_⟩) (hb.frame (· ∈ before)), fun _ => ?_⟩
  · rw [hps, List.mem_append] at hp
    exact Or.inr hp
  · obtain ⟨_, _, _, _, _, hz, hn⟩ := hW
    refine ⟨hok, _, _, ([] ++ pa) ++ pv, ⟨[] ++ pa, pv, trodAll_append (hargs _ (fun _ _ => rfl)) (hres _ _ _), hvars _ (fun _ _ => rfl), rfl, ?_, ?_⟩, ?_⟩
    · intro b off hp
      have hin : MemPlace.cell b off ∈ before := by rw [hps]; simpa using hp
      rw [hb.frozen (hlt _ hin)]
      exact hz b off hin
    · intro ha
      have := hn ha
      rw [hps] at this
      simpa using this
    · intro p hp _
      rw [hps]
      simpa using hp
theorem trodAll_stays (hl : laidOutB P = true) {W W' : World} (hb : Below W.heap.size W W') : ∀ {ts : List TypeId} {vs : List Value} {ds : List (DataW H)} {ps : List MemPlace} {sp : Nat → Bool}, (ts.all fun t => P.readableRec t && decide (t < P.types.size)) = true →
    DataW.TrodAll enc P W 0 (fun _ => true) true ts vs ds ps → (∀ p ∈ ps, sp p.block = true) → (∀ p ∈ ps, p.block < W.heap.size) → DataW.TrodAll enc P W' 0 sp true ts vs ds ps
  | [], vs, ds, ps, sp, _, h, _, _ => by
    obtain ⟨rfl, rfl, rfl⟩ := trodAll_nil h
    rfl
  | t :: ts, vs, ds, ps, sp, ht, h, hs, hlt => by
    obtain ⟨v, vs', d, ds', p, q, rfl, rfl, rfl, h1, h2⟩ := trodAll_cons h
    simp only [List.all_cons, Bool.and_eq_true, decide_eq_true_eq] at ht
    exact trodAll_cons_mk (Trod_stays hl ht.1.1 ht.1.2 h1 (fun x hx => hb.same (hlt x (by simp [hx]))) fun x hx => hs x (by simp [hx])) (trodAll_stays hl hb ht.2 h2 (fun x hx => hs x (by simp [hx])) fun x hx => hlt x (by simp [hx]))
/-- A law that answers yes, called. -/
theorem calls_of_spec {f : FuncId} {fn : Func} {W : World} {vs : List Value} {ds : List D} (hfn : P.funcs[f]? = some fn) (hbody : fn.body.isSome = true) (hname : (fn.name == "runtime.NumGoroutine") = false) (h : PSpec P f (ds.map .d) (.d (.bool true))) (hr : vs.length = ds.length ∧ ∀ (i : Nat) (x : D) (v : Value), ds[i]? = some x → vs[i]? = some v → Rd W (Sof W) x v) :
    Calls P f vs.toArray W fun e W' => e = .returned (.bool true) ∧ Below W.heap.size W W' := by
  have hsto : Sto W (Sof W) (fun _ => undef) (fun _ => none) 0 := ⟨fun k hk => hk, by simp, by simp, by simp, by simp, by simp, by simp⟩
  have hd := h (fun _ => none) 0 W (Sof W) (fun _ => undef) vs hsto (by simp [hr.1]) (fun i c v hc hv => by
    rw [List.getElem?_map] at hc
    obtain ⟨x, hx, rfl⟩ := Option.map_eq_some_iff.1 hc
    exact .d _ _ (hr.2 i x v hx hv)) (lts_of fun i c hc => by
      rw [List.getElem?_map] at hc
      obtain ⟨x, hx, rfl⟩ := Option.map_eq_some_iff.1 hc
      trivial)
  obtain ⟨b, hb⟩ := Option.isSome_iff_exists.1 hbody
  have hcf : (callFunc f vs.toArray).run P W = .ok (.enter f vs.toArray) W := by
    simp only [beq_eq_false_iff_ne, ne_eq] at hname
    simp [callFunc, hfn, hb, hname]
  unfold Does at hd
  rw [hcf] at hd
  refine hd.mono ?_
  rintro e W' ⟨v, rfl, r, o', nk', S', γ', ⟨rfl, rfl, rfl⟩, hs, ht, hsr, hl⟩
  refine ⟨?_, ht.os, ht.tape, ht.output, ht.size, fun k hk => ht.kept k hk ?_⟩
  · cases hsr with
    | d _ _ hrd => cases hrd; rfl
  · rintro ⟨t, y, hy, _⟩
    cases hy
end
end Go.Proofs.YtpkcbdhjnnnkbaaGreat.Abs

set_option linter.unusedVariables false
set_option linter.unusedSimpArgs false
set_option maxRecDepth 10000
namespace Go.Proofs.YtpkcbdhjnnnkbaaGreat.Abs
open Go
section
variable {H : Type} {enc : TypeId × Value → H} {w : World} {base fuel : Nat} {spare : Nat → Bool} {held : Bool} {cs : List Value} {x : DataW H × List MemPlace}
theorem cells_of {P : Program} {t : TypeId} {i : TI} (h : TOk P t i) : P.cellsOf t = i.sz := by
  have := h.s
  unfold Program.cellsOf
  cases hq : P.info? t with
  | none => rw [hq] at this; cases this
  | some q => rw [hq] at this; simp at this; simp [this.1]
def AStr (s : Str) (d : DataW H) : Prop := d = .lit (.string s)
def AVal (v : Val) (d : DataW H) : Prop := rngV v ∧ szV v ≤ Rows.uptoBulk d
def ADlt (v : Dlt) (d : DataW H) : Prop := rngV v.value ∧ szV v.value + szN v.path ≤ Rows.uptoBulk d
theorem all2_cons {α : Type} {A : α → DataW H → Prop} {a : α} {l : List α} {es : List (DataW H)} (h : All2 A (a :: l) es) : ∃ y ys, es = y :: ys ∧ A a y ∧ All2 A l ys := by
  obtain ⟨h1, h2⟩ := h
  cases es with
  | nil => simp at h1
  | cons y ys => exact ⟨y, ys, rfl, h2 0 a y rfl rfl, by simpa using h1, fun i b z hb hz => h2 (i + 1) b z (by simpa using hb) (by simpa using hz)⟩
theorem szN_bulk : ∀ {l : List Str} {es : List (DataW H)}, All2 AStr l es → szN l ≤ Rows.uptoBulkAll es
  | [], es, _ => by simp [szN]
  | s :: l, es, h => by
    obtain ⟨y, ys, rfl, h1, h2⟩ := all2_cons h
    have := szN_bulk h2
    unfold AStr at h1
    subst h1
    simp only [szN, Rows.uptoBulkAll, Rows.uptoBulk]; omega
theorem szVs_bulk : ∀ {l : List Val} {es : List (DataW H)}, All2 AVal l es → rngVs l ∧ szVs l ≤ Rows.uptoBulkAll es
  | [], es, _ => by simp [szVs, rngVs]
  | s :: l, es, h => by
    obtain ⟨y, ys, rfl, h1, h2⟩ := all2_cons h
    have := szVs_bulk h2
    simp only [szVs, rngVs, Rows.uptoBulkAll]
    exact ⟨⟨h1.1, this.1⟩, by have := h1.2; omega⟩
theorem bulk_sl {α : Type} {A : α → DataW H → Prop} {l : List α} {d : DataW H} {n : Nat} (h : SlD A l d) (h0 : l = [] → n = 0) (h1 : ∀ es, All2 A l es → n ≤ Rows.uptoBulkAll es) : n + 1 ≤ Rows.uptoBulk d := by
  rcases h with ⟨rfl, h⟩ | ⟨es, sp, rfl, h⟩
  · have := h0 h
    simp [Rows.uptoBulk, this]
  · have := h1 es h
    simp only [Rows.uptoBulk]; omega
theorem one_le (d : DataW H) : 1 ≤ Rows.uptoBulk d := by
  cases d with
  | lit l => cases l <;> simp [Rows.uptoBulk]
  | nil => simp [Rows.uptoBulk]
  | ptr d => simp [Rows.uptoBulk]
  | slice elems spare => simp [Rows.uptoBulk]
  | agg parts => simp [Rows.uptoBulk]
  | iface t d => simp [Rows.uptoBulk]
  | map entries => simp [Rows.uptoBulk]
  | held h => simp [Rows.uptoBulk]
theorem mem_bulk {d : DataW H} {l : List (DataW H)} (h : d ∈ l) : Rows.uptoBulk d ≤ Rows.uptoBulkAll l := by
  induction l with
  | nil => cases h
  | cons x r ih =>
    simp only [Rows.uptoBulkAll]
    cases List.mem_cons.1 h with
    | inl e => subst e; omega
    | inr e => have := ih e; omega

theorem open_strs (h : DataW.trod enc Tryz.prog w base spare held fuel 22 cs = some x) : ∃ l : List Str, RdC w [.sl 1 (l.map .str)] cs ∧ SlD AStr l x.1 :=
  rd_slice (z := 1) D.str AStr ((tabOk 22 _ th22).slice rfl) (cells_of (tabOk 9 _ th9)) (by decide) (fun _ => rfl) (fun _ => trivial) h fun n cs x _ h => by
    obtain ⟨s, h1, h2⟩ := rd_str ((tabOk 9 _ th9).str rfl) h
    exact ⟨s, h1, h2⟩
theorem rngVs_mem {l : List Val} (h : rngVs l) : ∀ v ∈ l, rngV v := by
  induction l with
  | nil => simp
  | cons a l ih =>
    simp only [rngVs] at h
    intro v hv
    rcases List.mem_cons.1 hv with rfl | hv
    · exact h.1
    · exact ih h.2 v hv
theorem open_val : ∀ (fuel : Nat) (cs : List Value) (x : DataW H × List MemPlace), DataW.trod enc Tryz.prog w base spare held fuel 27 cs = some x → ∃ v : Val, RdC w (valCells v) cs ∧ AVal v x.1 := by
  intro fuel
  induction fuel using Nat.strongRecOn with
  | _ fuel ih =>
    intro cs x h
    obtain ⟨ys, n, hn, hx, hl, hyl, hf⟩ := rd_struct (tabOk 27 _ th27) rfl h
    match ys, hyl with
    | [y0, y1, y2, y3, y4], _ =>
      have c1 := cells_of (tabOk 3 _ th3)
      have c9 := cells_of (tabOk 9 _ th9)
      have c25 := cells_of (tabOk 25 _ th25)
      have c22 := cells_of (tabOk 22 _ th22)
      have c27 := cells_of (tabOk 27 _ th27)
      have f0 := hf 0 (0, 3) rfl
      have f1 := hf 1 (1, 3) rfl
      have f2 := hf 2 (2, 9) rfl
      have f3 := hf 3 (3, 25) rfl
      have f4 := hf 4 (4, 22) rfl
      rw [c1] at f0 f1
      rw [c9] at f2
      rw [c25] at f3
      rw [c22] at f4
      rw [c27] at hl
      obtain ⟨k, k1, k2, k3⟩ := rd_int ((tabOk 3 _ th3).int rfl) (x := y0) f0
      obtain ⟨i, i1, i2, i3⟩ := rd_int ((tabOk 3 _ th3).int rfl) (x := y1) f1
      obtain ⟨s, s1, s2⟩ := rd_str ((tabOk 9 _ th9).str rfl) (x := y2) f2
      obtain ⟨vs, v1, v2⟩ := rd_slice (z := 5) encV AVal ((tabOk 25 _ th25).slice rfl) c27 (by decide) (fun a => by rw [encV_eq]; rfl) (fun a => by rw [encV_eq]; rfl) (x := y3) f3 fun m cs x hm h => by
        obtain ⟨v, h1, h2⟩ := ih m (by omega) cs x h
        exact ⟨v, by rw [encV_eq]; exact h1, h2⟩
      obtain ⟨ns, n1, n2⟩ := open_strs (x := y4) f4
      refine ⟨.mk k i s vs ns, ?_, ?_⟩
      · have := rdC_cat (cs := cs) (o := 0) (n := 1) k1 rfl (rdC_cat (n := 1) i1 rfl (rdC_cat (n := 1) s1 rfl (rdC_cat (n := 1) v1 rfl (rdC_cat (n := 1) n1 rfl (rdC_nil hl)))))
        simpa [valCells, Val.kind, Val.int, Val.text, Val.items, Val.names, encVs_map] using this
      · have b3 : rngVs vs ∧ szVs vs + 1 ≤ Rows.uptoBulk y3.1 := by
          refine ⟨?_, bulk_sl v2 (fun h => by rw [h]; rfl) fun es h => (szVs_bulk h).2⟩
          rcases v2 with ⟨_, rfl⟩ | ⟨es, sp, _, h⟩
          · trivial
          · exact (szVs_bulk h).1
        have b4 := bulk_sl n2 (n := szN ns) (fun h => by rw [h]; rfl) fun es h => szN_bulk h
        refine ⟨⟨wf_i64 i3, b3.1⟩, ?_⟩
        rw [hx]
        simp only [List.map_cons, List.map_nil, Rows.uptoBulk, Rows.uptoBulkAll, k2, i2, s2, szV]
        omega
theorem open_dlt (h : DataW.trod enc Tryz.prog w base spare held fuel 83 cs = some x) : ∃ d : Dlt, RdC w (encD d).cl cs ∧ ADlt d x.1 := by
  obtain ⟨ys, n, hn, hx, hl, hyl, hf⟩ := rd_struct (tabOk 83 _ th83) rfl h
  match ys, hyl with
  | [y0, y1, y2, y3], _ =>
    have f0 := hf 0 (0, 3) rfl
    have f1 := hf 1 (1, 22) rfl
    have f2 := hf 2 (2, 27) rfl
    have f3 := hf 3 (7, 3) rfl
    rw [cells_of (tabOk 3 _ th3)] at f0 f3
    rw [cells_of (tabOk 22 _ th22)] at f1
    rw [cells_of (tabOk 27 _ th27)] at f2
    rw [cells_of (tabOk 83 _ th83)] at hl
    obtain ⟨k, k1, k2, k3⟩ := rd_int ((tabOk 3 _ th3).int rfl) (x := y0) f0
    obtain ⟨p, p1, p2⟩ := open_strs (x := y1) f1
    obtain ⟨v, v1, v2⟩ := open_val n _ y2 f2
    obtain ⟨m, m1, m2, m3⟩ := rd_int ((tabOk 3 _ th3).int rfl) (x := y3) f3
    refine ⟨⟨k, p, v, m⟩, ?_, v2.1, ?_⟩
    · have := rdC_cat (cs := cs) (o := 0) (n := 1) k1 rfl (rdC_cat (n := 1) p1 rfl (rdC_cat (n := 5) v1 rfl (rdC_cat (n := 1) m1 rfl (rdC_nil hl))))
      simpa [encD, D.cl, valCells] using this
    · have b1 := bulk_sl p2 (n := szN p) (fun h => by rw [h]; rfl) fun es h => szN_bulk h
      have b2 := v2.2
      rw [hx]
      simp only [List.map_cons, List.map_nil, Rows.uptoBulk, Rows.uptoBulkAll, k2, m2]
      omega
theorem open_dlts (h : DataW.trod enc Tryz.prog w base spare held fuel 28 cs = some x) : ∃ l : List Dlt, RdC w [.sl 8 (l.map encD)] cs ∧ SlD ADlt l x.1 :=
  rd_slice (z := 8) encD ADlt ((tabOk 28 _ th28).slice rfl) (cells_of (tabOk 83 _ th83)) (by decide) (fun _ => rfl) (fun _ => rfl) h fun n cs x _ h => open_dlt h
/-- What a list of changes holds. -/
def szDs : List Dlt → Nat
  | [] => 0
  | d :: r => szV d.value + szN d.path + szDs r
theorem szDs_bulk : ∀ {l : List Dlt} {es : List (DataW H)}, All2 ADlt l es → szDs l ≤ Rows.uptoBulkAll es ∧ ∀ d ∈ l, rngV d.value
  | [], es, _ => by simp [szDs]
  | s :: l, es, h => by
    obtain ⟨y, ys, rfl, h1, h2⟩ := all2_cons h
    have := szDs_bulk h2
    simp only [szDs, Rows.uptoBulkAll]
    refine ⟨by have := h1.2; omega, fun d hd => ?_⟩
    rcases List.mem_cons.1 hd with rfl | hd
    · exact h1.1
    · exact this.2 d hd
theorem szDs_mem {l : List Dlt} {d : Dlt} (h : d ∈ l) : szV d.value + szN d.path ≤ szDs l := by
  induction l with
  | nil => cases h
  | cons a l ih =>
    simp only [szDs]
    rcases List.mem_cons.1 h with rfl | h
    · omega
    · have := ih h; omega
theorem dlts_all {l : List Dlt} {d : DataW H} (h : SlD ADlt l d) : szDs l + 1 ≤ Rows.uptoBulk d ∧ ∀ x ∈ l, rngV x.value := by
  refine ⟨bulk_sl h (fun h => by rw [h]; rfl) fun es h => (szDs_bulk h).1, ?_⟩
  rcases h with ⟨_, rfl⟩ | ⟨es, sp, _, h⟩
  · simp
  · exact (szDs_bulk h).2
def I64 (n : Int) : Prop := -9223372036854775808 ≤ n ∧ n ≤ 9223372036854775807
structure AEtr (e : Etr) (d : DataW H) : Prop where
  rt : I64 e.term
  rk : I64 e.kind
  rs : I64 e.session
  rn : I64 e.number
  ri : rngV e.id
  rd : rngV e.doc
  rl : ∀ x ∈ e.deltas, rngV x.value
  sz : szV e.id + szV e.doc + szDs e.deltas + e.coll.length + e.to.length + 1 ≤ Rows.uptoBulk d
theorem encE_cl (e : Etr) : (encE e).cl = [.int .i64 e.term, .int .i64 e.kind, .str e.coll, .str e.to] ++ valCells e.id ++ valCells e.doc ++ [.sl 8 (e.deltas.map encD), .int .i64 e.session, .int .i64 e.number] := rfl
theorem open_etr (h : DataW.trod enc Tryz.prog w base spare held fuel 30 cs = some x) : ∃ e : Etr, RdC w (encE e).cl cs ∧ AEtr e x.1 := by
  obtain ⟨ys, n, hn, hx, hl, hyl, hf⟩ := rd_struct (tabOk 30 _ th30) rfl h
  match ys, hyl with
  | [y0, y1, y2, y3, y4, y5, y6, y7, y8], _ =>
    have f0 := hf 0 (0, 3) rfl
    have f1 := hf 1 (1, 3) rfl
    have f2 := hf 2 (2, 9) rfl
    have f3 := hf 3 (3, 9) rfl
    have f4 := hf 4 (4, 27) rfl
    have f5 := hf 5 (9, 27) rfl
    have f6 := hf 6 (14, 28) rfl
    have f7 := hf 7 (15, 3) rfl
    have f8 := hf 8 (16, 3) rfl
    rw [cells_of (tabOk 3 _ th3)] at f0 f1 f7 f8
    rw [cells_of (tabOk 9 _ th9)] at f2 f3
    rw [cells_of (tabOk 27 _ th27)] at f4 f5
    rw [cells_of (tabOk 28 _ th28)] at f6
    rw [cells_of (tabOk 30 _ th30)] at hl
    obtain ⟨a, a1, a2, a3⟩ := rd_int ((tabOk 3 _ th3).int rfl) (x := y0) f0
    obtain ⟨b, b1, b2, b3⟩ := rd_int ((tabOk 3 _ th3).int rfl) (x := y1) f1
    obtain ⟨c, c1, c2⟩ := rd_str ((tabOk 9 _ th9).str rfl) (x := y2) f2
    obtain ⟨t, t1, t2⟩ := rd_str ((tabOk 9 _ th9).str rfl) (x := y3) f3
    obtain ⟨i, i1, i2⟩ := open_val n _ y4 f4
    obtain ⟨d, d1, d2⟩ := open_val n _ y5 f5
    obtain ⟨l, l1, l2⟩ := open_dlts (x := y6) f6
    obtain ⟨s, s1, s2, s3⟩ := rd_int ((tabOk 3 _ th3).int rfl) (x := y7) f7
    obtain ⟨m, m1, m2, m3⟩ := rd_int ((tabOk 3 _ th3).int rfl) (x := y8) f8
    have hl2 := dlts_all l2
    refine ⟨⟨a, b, c, t, i, d, l, s, m⟩, ?_, ⟨wf_i64 a3, wf_i64 b3, wf_i64 s3, wf_i64 m3, i2.1, d2.1, hl2.2, ?_⟩⟩
    · have := rdC_cat (cs := cs) (o := 0) (n := 1) a1 rfl (rdC_cat (n := 1) b1 rfl (rdC_cat (n := 1) c1 rfl (rdC_cat (n := 1) t1 rfl (rdC_cat (n := 5) i1 rfl (rdC_cat (n := 5) d1 rfl (rdC_cat (n := 1) l1 rfl (rdC_cat (n := 1) s1 rfl (rdC_cat (n := 1) m1 rfl (rdC_nil hl)))))))))
      simpa [encE_cl] using this
    · rw [hx]
      have e1 := i2.2
      have e2 := d2.2
      simp only [List.map_cons, List.map_nil, Rows.uptoBulk, Rows.uptoBulkAll, a2, b2, c2, t2, s2, m2]
      omega
theorem open_etrs (h : DataW.trod enc Tryz.prog w base spare held fuel 34 cs = some x) : ∃ l : List Etr, RdC w [.sl 17 (l.map encE)] cs ∧ SlD AEtr l x.1 :=
  rd_slice (z := 17) encE AEtr ((tabOk 34 _ th34).slice rfl) (cells_of (tabOk 30 _ th30)) (by decide) (fun _ => rfl) (fun _ => rfl) h fun n cs x _ h => open_etr h
structure AFlt (f : Flt) (d : DataW H) : Prop where
  rk : I64 f.kinds
  sz : f.coll.length + szN f.path ≤ Rows.uptoBulk d
theorem open_flt (h : DataW.trod enc Tryz.prog w base spare held fuel 24 cs = some x) : ∃ f : Flt, RdC w (encF f).cl cs ∧ AFlt f x.1 := by
  obtain ⟨ys, n, hn, hx, hl, hyl, hf⟩ := rd_struct (tabOk 24 _ th24) rfl h
  match ys, hyl with
  | [y0, y1, y2], _ =>
    have f0 := hf 0 (0, 9) rfl
    have f1 := hf 1 (1, 22) rfl
    have f2 := hf 2 (2, 3) rfl
    rw [cells_of (tabOk 9 _ th9)] at f0
    rw [cells_of (tabOk 22 _ th22)] at f1
    rw [cells_of (tabOk 3 _ th3)] at f2
    rw [cells_of (tabOk 24 _ th24)] at hl
    obtain ⟨c, c1, c2⟩ := rd_str ((tabOk 9 _ th9).str rfl) (x := y0) f0
    obtain ⟨p, p1, p2⟩ := open_strs (x := y1) f1
    obtain ⟨k, k1, k2, k3⟩ := rd_int ((tabOk 3 _ th3).int rfl) (x := y2) f2
    refine ⟨⟨c, p, k⟩, ?_, wf_i64 k3, ?_⟩
    · have := rdC_cat (cs := cs) (o := 0) (n := 1) c1 rfl (rdC_cat (n := 1) p1 rfl (rdC_cat (n := 1) k1 rfl (rdC_nil hl)))
      simpa [encF, D.cl] using this
    · have b1 := bulk_sl p2 (n := szN p) (fun h => by rw [h]; rfl) fun es h => szN_bulk h
      rw [hx]
      simp only [List.map_cons, List.map_nil, Rows.uptoBulk, Rows.uptoBulkAll, c2, k2]
      omega
theorem okE_of {e : Etr} {d : DataW H} (h : AEtr e d) (hb : Rows.uptoBulk d ≤ 1048576) : OkE e := by
  have hs := h.sz
  refine ⟨h.ri, by omega, h.rd, by omega, fun _ x hx => ⟨h.rl x hx, ?_⟩⟩
  have := szDs_mem hx
  omega
theorem okEd_of {e : Etr} {d : DataW H} (h : AEtr e d) (hb : Rows.uptoBulk d ≤ 1048576) : ∀ x ∈ e.deltas, szV x.value ≤ 1099511627776 := fun x hx => by
  have hs := h.sz
  have := szDs_mem hx
  omega
end
end Go.Proofs.YtpkcbdhjnnnkbaaGreat.Abs

set_option linter.unusedVariables false
set_option linter.unusedSimpArgs false
set_option maxRecDepth 10000
namespace Go.Proofs.YtpkcbdhjnnnkbaaGreat.Abs
open Go
instance : Inhabited Etr := ⟨⟨0, 0, [], [], zeroV, zeroV, [], 0, 0⟩⟩
theorem sl_mem {H : Type} {α : Type} {A : α → DataW H → Prop} {l : List α} {d : DataW H} (h : SlD A l d) {a : α} (ha : a ∈ l) : ∃ y, A a y ∧ Rows.uptoBulk y ≤ Rows.uptoBulk d := by
  rcases h with ⟨_, rfl⟩ | ⟨es, sp, rfl, h1, h2⟩
  · cases ha
  · obtain ⟨i, hi, rfl⟩ := List.mem_iff_getElem.1 ha
    have hi' : i < es.length := by rw [← h1]; exact hi
    refine ⟨es[i], h2 i _ _ (List.getElem?_eq_getElem hi) (List.getElem?_eq_getElem hi'), ?_⟩
    have := mem_bulk (List.getElem_mem hi')
    simp only [Rows.uptoBulk]; omega

theorem fn4 : FnOk Tryz.prog 4 54 [4] (bodyOf Tryz.f4) := ⟨Tryz.f4, Tryz.func4, by kernel_rfl, by decide, by kernel_rfl, by kernel_rfl⟩
theorem s4 (f : Flt) (l : List Etr) (okf : OkF f) (ok : ∀ e ∈ l, OkE e) (okd : ∀ e ∈ l, ∀ d ∈ e.deltas, szV d.value ≤ 1099511627776) : PSpec Tryz.prog 4 [.d (encF f), .d (.sl 17 (l.map encE))] (.d (.bool true)) := by
  refine PSpec.bd fun hbd => ?_
  have hx : l.length ≤ 9223372036854775807 := by simpa using hbd.2.1.1
  have hcl := countN_le f l
  refine PSpec.of fn4 (by simp) fun o nk => ?_
  refine WP.seq fun K1 hK1 => ?_
  refine WP.reg tabOk rfl ?_
  refine u_step (g_box rfl fun o2 hb2 hk2 => ?_)
  refine u_step (o_assign rfl ?_)
  refine u_nil ?_
  refine hK1 _ ?_
  refine WP.seq fun K3 hK3 => ?_
  refine WP.reg tabOk rfl ?_
  refine u_step (o_assign rfl ?_)
  refine u_nil ?_
  refine hK3 _ ?_
  refine WP.seq fun K4 hK4 => ?_
  refine WP.reg tabOk rfl ?_
  refine u_step (o_assign rfl ?_)
  refine u_nil ?_
  refine hK4 _ ?_
  refine WP.seq fun K5 hK5 => ?_
  refine WP.seq fun K6 hK6 => ?_
  refine WP.reg tabOk rfl ?_
  refine u_step (o_assign rfl ?_)
  refine u_nil ?_
  refine hK6 _ ?_
  refine WP.block ?_
  refine WP.loopL (ι := Nat × Nat × Bool) (fun ⟨i, n, b⟩ => ⟨al [(1, .d (.sl 17 (l.map encE))), (2, .loc nk 0), (5, .d (.int .i64 (n : Nat))), (6, .d (.bool b)), (7, .d (.int .i64 i))], o2, (nk + 1)⟩) (fun ⟨i, n, b⟩ => i ≤ l.length ∧ n ≤ i ∧ n + (if b = true then 0 else countN f (l.drop i)) = countN f l) (fun ⟨i, n, b⟩ => l.length - i) (fun ⟨i, n, b⟩ hA => ?_) ⟨0, 0, false⟩ ?_ ?_
  ·
    obtain ⟨hle, hni, hcn⟩ := hA
    refine WP.seq fun K7 hK7 => ?_
    refine WP.seq fun K8 hK8 => ?_
    refine WP.reg tabOk rfl ?_
    refine u_step (o_move rfl ?_)
    refine u_step (o_move rfl ?_)
    refine u_step (o_len_sl rfl th34 rfl ?_)
    refine u_step (o_bin_int rfl rfl (by decide) rfl ?_)
    refine u_nil ?_
    refine hK8 _ ?_
    refine WP.cond rfl (fun hc9 => ?_) (fun hc9 => ?_)
    ·
      try simp only [Q0, Q1, Q2, Q3, Q4, Q5, Q6, Q7, Q8, ge_iff_le, gt_iff_lt] at hc9
      have hin2 : i < l.length := by have := hc9; (try simp at this); omega
      have hgd : l.getD i default = l[i] := by simp [hin2]
      have hme : l[i] ∈ l := List.getElem_mem _
      have hst := countN_at (f := f) (l := l) (i := i) hin2
      have hm1 : (if matchV f l[i] = true then 1 else 0) ≤ 1 := by split <;> omega
      refine WP.skip ?_
      refine hK7 _ ?_
      refine WP.seq fun K10 hK10 => ?_
      refine WP.block ?_
      refine WP.seq fun K11 hK11 => ?_
      refine WP.seq fun K12 hK12 => ?_
      refine WP.drw tabOk (by kernel_rfl) rfl (by kernel_rfl) ?_
      refine d_step (o_move rfl ⟨rfl, rfl, rfl⟩) ?_
      refine d_step (o_bin_int rfl rfl (by decide) rfl ⟨rfl, rfl, rfl⟩) ?_
      refine d_step (o_move rfl ⟨rfl, rfl, rfl⟩) ?_
      apply d_guard
      · exact GC.f _
      · intro hg
        refine o_ld_agg rfl th24 rfl hb2 rfl rfl rfl ⟨rfl, rfl, rfl⟩
      apply d_guard
      · exact GC.f _
      · intro hg
        refine o_move rfl ⟨rfl, rfl, rfl⟩
      apply d_guard
      · exact GC.f _
      · intro hg
        refine o_move rfl ⟨rfl, rfl, rfl⟩
      apply d_guard
      · exact GC.f _
      · intro hg; try simp only [hg, cnd_true]; try simp only [hg, cnd_true, Bool.true_and]
        refine o_ia_G (xs := l) default rfl rfl th34 rfl th30 rfl hin2 ⟨rfl, rfl, rfl⟩
      apply d_guard
      · exact GC.f _
      · intro hg; try simp only [hg, cnd_true]; try simp only [hg, cnd_true, Bool.true_and]
        refine o_ld_el rfl th30 rfl rfl ⟨rfl, rfl, rfl⟩
      apply d_guard
      · exact GC.f _
      · intro hg; try simp only [hg, cnd_true]; try simp only [hg, cnd_true, Bool.true_and]
        refine o_pcall (s13 f (l.getD i default) (by rw [hgd]; exact ok _ hme) (by rw [hgd]; exact okd _ hme)) rfl ⟨rfl, rfl, rfl⟩
      refine d_step (o_pick_or rfl rfl rfl ⟨rfl, rfl, rfl⟩) ?_
      refine d_nil ?_
      refine hK12 _ ?_
      refine WP.cond rfl (fun hc13 => ?_) (fun hc13 => ?_)
      ·
        try simp only [Q0, Q1, Q2, Q3, Q4, Q5, Q6, Q7, Q8, ge_iff_le, gt_iff_lt] at hc13
        refine WP.seq fun K14 hK14 => ?_
        refine WP.reg tabOk rfl ?_
        refine u_step (o_pcall (s14) rfl ?_)
        refine u_step (o_assign rfl ?_)
        refine u_nil ?_
        refine hK14 _ ?_
        refine WP.ret ?_
        refine ret_ok rfl ?_ (by omega) (fun t ht => (hk2 t (by omega)))
        -- ret 1
        rfl
      ·
        try simp only [Q0, Q1, Q2, Q3, Q4, Q5, Q6, Q7, Q8, ge_iff_le, gt_iff_lt] at hc13
        refine WP.skip ?_
        refine hK11 _ ?_
        refine WP.seqJ ⟨al [(1, .d (.sl 17 (l.map encE))), (2, .loc nk 0), (5, .d (.int .i64 (n + (if (!b && matchV f (l.getD i default)) = true then 1 else 0) : Nat))), (6, .d (.bool b)), (7, .d (.int .i64 i))], o2, (nk + 1)⟩ ?_ ?_
        ·
          refine WP.seq fun K15 hK15 => ?_
          refine WP.drw tabOk (by kernel_rfl) rfl (by kernel_rfl) ?_
          refine d_step (o_move rfl ⟨rfl, rfl, rfl⟩) ?_
          refine d_step (o_not rfl ⟨rfl, rfl, rfl⟩) ?_
          refine d_step (o_move rfl ⟨rfl, rfl, rfl⟩) ?_
          apply d_guard
          · exact GC.t _
          · intro hg
            refine o_ld_agg rfl th24 rfl hb2 rfl rfl rfl ⟨rfl, rfl, rfl⟩
          apply d_guard
          · exact GC.t _
          · intro hg
            refine o_move rfl ⟨rfl, rfl, rfl⟩
          apply d_guard
          · exact GC.t _
          · intro hg
            refine o_move rfl ⟨rfl, rfl, rfl⟩
          apply d_guard
          · exact GC.t _
          · intro hg; try simp only [hg, cnd_true]; try simp only [hg, cnd_true, Bool.true_and]
            refine o_ia_G (xs := l) default rfl rfl th34 rfl th30 rfl hin2 ⟨rfl, rfl, rfl⟩
          apply d_guard
          · exact GC.t _
          · intro hg; try simp only [hg, cnd_true]; try simp only [hg, cnd_true, Bool.true_and]
            refine o_ld_el rfl th30 rfl rfl ⟨rfl, rfl, rfl⟩
          apply d_guard
          · exact GC.t _
          · intro hg; try simp only [hg, cnd_true]; try simp only [hg, cnd_true, Bool.true_and]
            refine o_pcall (s18 f (l.getD i default) (by rw [hgd]; exact ok _ hme)) rfl ⟨rfl, rfl, rfl⟩
          refine d_step (o_pick_and rfl rfl rfl ⟨rfl, rfl, rfl⟩) ?_
          refine d_nil ?_
          refine hK15 _ ?_
          refine WP.cond rfl (fun hc16 => ?_) (fun hc16 => ?_)
          ·
            try simp only [Q0, Q1, Q2, Q3, Q4, Q5, Q6, Q7, Q8, ge_iff_le, gt_iff_lt] at hc16
            refine WP.reg tabOk rfl ?_
            refine u_step (o_move rfl ?_)
            refine u_step (o_bin_int rfl rfl (by decide) rfl ?_)
            refine u_step (o_assign rfl ?_)
            refine u_nil ?_
            refine Le.al ?_
            simp only [List.forall_mem_cons]
            have hl := hc16
            refine ⟨rfl, rfl, ?_, rfl, rfl, by simp⟩
            first | (rw [if_pos hl]; exact cnt (by omega)) | (rw [if_neg (by simpa using hl)]; rfl)
          ·
            try simp only [Q0, Q1, Q2, Q3, Q4, Q5, Q6, Q7, Q8, ge_iff_le, gt_iff_lt] at hc16
            refine WP.skip ?_
            refine Le.al ?_
            simp only [List.forall_mem_cons]
            have hl := hc16
            refine ⟨rfl, rfl, ?_, rfl, rfl, by simp⟩
            first | (rw [if_pos hl]; exact cnt (by omega)) | (rw [if_neg (by simpa using hl)]; rfl)
        ·
          refine WP.drw tabOk (by kernel_rfl) rfl (by kernel_rfl) ?_
          refine d_step (o_move rfl ⟨rfl, rfl, rfl⟩) ?_
          refine d_step (o_move rfl ⟨rfl, rfl, rfl⟩) ?_
          apply d_guard
          · exact GC.f _
          · intro hg
            refine o_ld_agg rfl th24 rfl hb2 rfl rfl rfl ⟨rfl, rfl, rfl⟩
          apply d_guard
          · exact GC.f _
          · intro hg
            refine o_move rfl ⟨rfl, rfl, rfl⟩
          apply d_guard
          · exact GC.f _
          · intro hg
            refine o_move rfl ⟨rfl, rfl, rfl⟩
          apply d_guard
          · exact GC.f _
          · intro hg; try simp only [hg, cnd_true]; try simp only [hg, cnd_true, Bool.true_and]
            refine o_ia_G (xs := l) default rfl rfl th34 rfl th30 rfl hin2 ⟨rfl, rfl, rfl⟩
          apply d_guard
          · exact GC.f _
          · intro hg; try simp only [hg, cnd_true]; try simp only [hg, cnd_true, Bool.true_and]
            refine o_ld_el rfl th30 rfl rfl ⟨rfl, rfl, rfl⟩
          apply d_guard
          · exact GC.f _
          · intro hg; try simp only [hg, cnd_true]; try simp only [hg, cnd_true, Bool.true_and]
            refine o_pcall (s20 f (l.getD i default) (by rw [hgd]; exact ok _ hme)) rfl ⟨rfl, rfl, rfl⟩
          refine d_step (o_pick_or rfl rfl rfl ⟨rfl, rfl, rfl⟩) ?_
          refine d_step (o_assign rfl ⟨rfl, rfl, rfl⟩) ?_
          refine d_nil ?_
          refine hK10 _ ?_
          refine WP.reg tabOk rfl ?_
          refine u_step (o_move rfl ?_)
          refine u_step (o_bin_int rfl rfl (by decide) rfl ?_)
          refine u_step (o_assign rfl ?_)
          refine u_nil ?_
          -- back
          refine ⟨⟨i + 1, n + (if (!b && matchV f (l.getD i default)) = true then 1 else 0), b || endsV f (l.getD i default)⟩, ⟨by omega, by split <;> omega, ?_⟩, by simp only; omega, ?_⟩
          · rw [hgd]; cases b
            · simp only [Bool.not_false, Bool.true_and, Bool.false_or]; simp only [Bool.false_eq_true, if_false] at hcn; rw [← hcn, hst]; omega
            · simp at hcn ⊢; omega
          · refine Le.al ?_
            simp only [List.forall_mem_cons]
            exact ⟨rfl, rfl, rfl, rfl, cnt (by omega), by simp⟩
    ·
      try simp only [Q0, Q1, Q2, Q3, Q4, Q5, Q6, Q7, Q8, ge_iff_le, gt_iff_lt] at hc9
      refine WP.exit ?_
      refine hK5 _ ?_
      refine WP.seq fun K17 hK17 => ?_
      refine WP.reg tabOk rfl ?_
      refine u_step (o_pcall (s14) rfl ?_)
      refine u_step (o_move rfl ?_)
      apply u_guard
      · exact GC.t _
      · intro hg
        refine o_ld_agg rfl th24 rfl hb2 rfl rfl rfl ⟨rfl, rfl, rfl⟩
      apply u_guard
      · exact GC.t _
      · intro hg
        refine o_move rfl ⟨rfl, rfl, rfl⟩
      apply u_guard
      · exact GC.t _
      · intro hg; try simp only [hg, cnd_true]; try simp only [hg, cnd_true, Bool.true_and]
        refine o_pcall (s21 f l okf ok) rfl ⟨rfl, rfl, rfl⟩
      apply u_guard
      · exact GC.t _
      · intro hg
        refine o_move rfl ⟨rfl, rfl, rfl⟩
      apply u_guard
      · exact GC.t _
      · intro hg; try simp only [hg, cnd_true]; try simp only [hg, cnd_true, Bool.true_and]
        refine o_bin_int rfl rfl (by decide) rfl ⟨rfl, rfl, rfl⟩
      refine u_step (o_pick_and rfl rfl rfl ?_)
      refine u_step (o_assign rfl ?_)
      refine u_nil ?_
      refine hK17 _ ?_
      refine WP.ret ?_
      refine ret_ok rfl ?_ (by omega) (fun t ht => (hk2 t (by omega)))
      -- ret 2
      refine congrArg D.bool ?_
      have e : l.drop i = [] := List.drop_eq_nil_of_le (by omega)
      rw [e, countN] at hcn
      have hq : countN f l = n := by rw [← hcn]; simp
      rw [hq]; simp
  ·
    exact ⟨by omega, by omega, by simp⟩
  ·
    refine Le.al ?_
    simp only [List.forall_mem_cons]
    exact ⟨rfl, rfl, rfl, rfl, rfl, by simp⟩

end Go.Proofs.YtpkcbdhjnnnkbaaGreat.Abs

set_option linter.unusedVariables false
set_option linter.unusedSimpArgs false
namespace Go.Proofs.YtpkcbdhjnnnkbaaGreat.Abs
open Go
section
variable {P : Program} {Θ : Tab} {K : SV → (Nat → Option AO) → Nat → Prop} {sl : Nat → SV} {o : Nat → Option AO} {nk : Nat} {x y ix : Operand} {t e f : Nat}
theorem o_pcallF {g : FuncId} {asx : Array Operand} {ts : Array Nat} {us us2 : List SV} {r : SV} {t1 e1 z : Nat} {xs : List D} (ht : o t1 = some (.row e1 z xs)) (hs : PSpec P g us2 r) (ha : asx.toList.map (ev sl) = us) (hu : us.map (SV.frz t1 (.sl z xs)) = us2)
    (h : ∀ o1, (∀ u, u ≠ t1 → o1 u = o u) → K r o1 nk) : vOp P Θ (.call { callee := .value (.func g), args := asx, argTypes := ts }) ⟨sl, o, nk⟩ K :=
  o_call (Spec.freeze ht (by rw [hu]; exact hs _ nk)) ha (by rintro r' o' nk' ⟨rfl, rfl, rfl⟩; exact h _ fun u hu => by simp [upd, hu])
end
end Go.Proofs.YtpkcbdhjnnnkbaaGreat.Abs

set_option linter.unusedVariables false
set_option linter.unusedSimpArgs false
set_option maxRecDepth 10000
namespace Go.Proofs.YtpkcbdhjnnnkbaaGreat.Abs
open Go
theorem PSpec.le2X {P : Program} {f : FuncId} {x y x2 : D} {r : SV} (h : PSpec P f [.d y, .d x2] r) (hl : D.le x y) : PSpec P f [.d x, .d x2] r := h.le ⟨hl, D.le_refl _, trivial⟩
/-- The sum of the kinds below a bound. -/
def sumK (l : List Int) : Nat → Nat
  | 0 => 0
  | n + 1 => if 2 ≤ n ∧ (n : Int) ∈ l then 2 ^ n + sumK l n else sumK l n
theorem sumK_bits (l : List Int) : ∀ n, sumK l n < 2 ^ n ∧ ∀ j, (sumK l n).testBit j = decide (2 ≤ j ∧ j < n ∧ (j : Int) ∈ l)
  | 0 => ⟨by simp [sumK], fun j => by simp [sumK]⟩
  | n + 1 => by
    obtain ⟨h1, h2⟩ := sumK_bits l n
    have hp : 2 ^ (n + 1) = 2 ^ n + 2 ^ n := by rw [Nat.pow_succ]; omega
    simp only [sumK]
    split
    · rename_i hc
      refine ⟨by omega, fun j => ?_⟩
      have e : 2 ^ n + sumK l n = 2 ^ n ||| sumK l n := by
        have := Nat.two_pow_add_eq_or_of_lt h1 1
        simpa using this
      rw [e, Nat.testBit_or, h2, Nat.testBit_two_pow]
      rw [Bool.eq_iff_iff]
      simp only [Bool.or_eq_true, decide_eq_true_eq]
      constructor
      · rintro (rfl | h)
        · exact ⟨hc.1, by omega, hc.2⟩
        · exact ⟨h.1, by omega, h.2.2⟩
      · rintro ⟨a, b, c⟩
        by_cases hj : n = j
        · exact .inl hj
        · exact .inr ⟨a, by omega, c⟩
    · rename_i hc
      refine ⟨by omega, fun j => ?_⟩
      rw [h2, Bool.eq_iff_iff]
      simp only [decide_eq_true_eq]
      constructor
      · rintro ⟨a, b, c⟩; exact ⟨a, by omega, c⟩
      · rintro ⟨a, b, c⟩
        refine ⟨a, ?_, c⟩
        by_cases hj : j = n
        · subst hj; exact absurd ⟨a, c⟩ hc
        · omega
theorem ofN_bits : ∀ (l : List Int) (x j : Nat), (ofN l x).testBit j = (x.testBit j || decide (2 ≤ j ∧ j ≤ 7 ∧ (j : Int) ∈ l))
  | [], x, j => by simp [ofN]
  | k :: l, x, j => by
    simp only [ofN]
    rw [ofN_bits l _ j, Bool.eq_iff_iff]
    simp only [Bool.or_eq_true, decide_eq_true_eq, List.mem_cons]
    split
    · rename_i h
      rw [Nat.testBit_or, Nat.testBit_two_pow]
      simp only [Bool.or_eq_true, decide_eq_true_eq]
      constructor
      · rintro ((h1 | h1) | h1)
        · exact .inl h1
        · exact .inr ⟨by omega, by omega, .inl (by omega)⟩
        · exact .inr ⟨h1.1, h1.2.1, .inr h1.2.2⟩
      · rintro (h1 | ⟨a, b, c | c⟩)
        · exact .inl (.inl h1)
        · exact .inl (.inr (by omega))
        · exact .inr ⟨a, b, c⟩
    · rename_i h
      constructor
      · rintro (h1 | h1)
        · exact .inl h1
        · exact .inr ⟨h1.1, h1.2.1, .inr h1.2.2⟩
      · rintro (h1 | ⟨a, b, c | c⟩)
        · exact .inl h1
        · exact absurd ⟨by omega, by omega⟩ h
        · exact .inr ⟨a, b, c⟩
theorem ofN_sum (l : List Int) : ofN l 0 = sumK l 8 := by
  apply Nat.eq_of_testBit_eq
  intro j
  rw [ofN_bits, (sumK_bits l 8).2, Bool.eq_iff_iff]
  simp only [Nat.zero_testBit, Bool.false_or, decide_eq_true_eq]
  constructor
  · rintro ⟨a, b, c⟩; exact ⟨a, by omega, c⟩
  · rintro ⟨a, b, c⟩; exact ⟨a, by omega, c⟩
def hasK (l : List Int) (k : Int) (n : Nat) : Bool := decide (2 ≤ k ∧ k < (n : Int) ∧ k ∈ l)
theorem kind_sum {l : List Int} {k : Int} (h1 : 2 ≤ k) (h2 : k ≤ 7) : kindIn (sumK l 8 : Nat) k = hasK l k 8 := by
  obtain ⟨n, rfl⟩ := Int.eq_ofNat_of_zero_le (show 0 ≤ k by omega)
  have hb := (sumK_bits l 8).2 n
  rw [Nat.testBit_eq_decide_div_mod_eq] at hb
  unfold kindIn hasK
  rw [Bool.eq_iff_iff] at hb ⊢
  simp only [decide_eq_true_eq] at hb ⊢
  have e : ((sumK l 8 : Nat) : Int) / ((2 ^ ((n : Int)).toNat : Nat) : Int) % 2 = ((sumK l 8 / 2 ^ n % 2 : Nat) : Int) := by
    simp
  rw [e]
  constructor
  · intro h
    have := hb.1 (by omega)
    exact ⟨by omega, by omega, this.2.2⟩
  · intro h
    have := hb.2 ⟨by omega, by omega, h.2.2⟩
    omega
theorem sum_four (l : List Int) : sumK l 8 % 4 = 0 := by
  have h0 := (sumK_bits l 8).2 0
  have h1 := (sumK_bits l 8).2 1
  rw [Nat.testBit_eq_decide_div_mod_eq] at h0 h1
  simp at h0 h1
  omega
theorem has_next {l : List Int} {k : Int} {n : Nat} (h : 2 ≤ n) : hasK l k (n + 1) = (hasK l k n || (decide ((n : Int) ∈ l) && decide (k = (n : Int)))) := by
  unfold hasK
  rw [Bool.eq_iff_iff]
  simp only [Bool.or_eq_true, Bool.and_eq_true, decide_eq_true_eq]
  constructor
  · rintro ⟨a, b, c⟩
    by_cases hk : k = (n : Int)
    · subst hk; exact .inr ⟨c, rfl⟩
    · exact .inl ⟨a, by omega, c⟩
  · rintro (⟨a, b, c⟩ | ⟨a, rfl⟩)
    · exact ⟨a, by omega, c⟩
    · exact ⟨by omega, by omega, a⟩
theorem in_next {l : List Int} {k : Int} {i : Nat} (h : i < l.length) : decide (k ∈ l.take (i + 1)) = (decide (k ∈ l.take i) || decide (l[i]'h = k)) := by
  rw [List.take_succ_eq_append_getElem h, Bool.eq_iff_iff]
  simp only [List.mem_append, List.mem_singleton, Bool.or_eq_true, decide_eq_true_eq]
  constructor
  · rintro (h | h)
    · exact .inl h
    · exact .inr h.symm
  · rintro (h | h)
    · exact .inl h
    · exact .inr h.symm
theorem match_kinds {l : List Int} {e : Etr} (hn : ¬ sumK l 8 = 0) : matchV ⟨[], [], (sumK l 8 : Nat)⟩ e = (hasK l e.kind 8 && mayE e) := by
  have hlt : sumK l 8 < 256 := (sumK_bits l 8).1
  have h4 := sum_four l
  have hm : mayF ⟨[], [], (sumK l 8 : Nat)⟩ = true := by
    simp only [mayF, List.length_nil, decide_true, Bool.true_or, Bool.true_and, Bool.and_eq_true, decide_eq_true_eq]
    omega
  simp only [matchV, hm, Bool.true_and, ofCollV, atPathV, List.length_nil, if_pos]
  by_cases hme : mayE e = true
  · have hk := mayE_kind hme
    have h0 : ¬ ((sumK l 8 : Nat) : Int) = 0 := by omega
    by_cases h1 : e.kind = 1
    · have : hasK l e.kind 8 = false := by unfold hasK; rw [h1]; simp
      rw [this, h1]; simp
    · rw [kind_sum (by omega) (by omega)]
      simp [hme, h1, h0, hn]
  · simp [hme]

theorem fn5 : FnOk Tryz.prog 5 75 [4] (bodyOf Tryz.f5) := ⟨Tryz.f5, Tryz.func5, by kernel_rfl, by decide, by kernel_rfl, by kernel_rfl⟩
theorem s5 (ks : List Int) (e : Etr) (ok : OkE e) (okd : ∀ d ∈ e.deltas, szV d.value ≤ 1099511627776) (hks : ks.length ≤ 1048576) : PSpec Tryz.prog 5 [.d (.sl 1 (ks.map (D.int .i64))), .d (encE e)] (.d (.bool true)) := by
  refine PSpec.bd fun hbd => ?_
  have hx : ks.length ≤ 9223372036854775807 := by simpa using hbd.1.1
  refine PSpec.of fn5 (by simp) fun o nk => ?_
  refine WP.seq fun K1 hK1 => ?_
  refine WP.reg tabOk rfl ?_
  refine u_step (g_box rfl fun o2 hb2 hk2 => ?_)
  refine u_step (o_assign rfl ?_)
  refine u_nil ?_
  refine hK1 _ ?_
  refine WP.seq fun K3 hK3 => ?_
  refine WP.seq fun K4 hK4 => ?_
  refine WP.reg tabOk rfl ?_
  refine u_step (o_move rfl ?_)
  refine u_step (o_len_sl rfl th37 rfl ?_)
  refine u_step (o_bin_int rfl rfl (by decide) rfl ?_)
  refine u_step (o_move rfl ?_)
  apply u_guard
  · exact GC.f _
  · intro hg
    refine o_ld_agg rfl th30 rfl hb2 rfl rfl rfl ⟨rfl, rfl, rfl⟩
  apply u_guard
  · exact GC.f _
  · intro hg; try simp only [hg, cnd_true]; try simp only [hg, cnd_true, Bool.true_and]
    refine o_pcall (s22 e ok okd) rfl ⟨rfl, rfl, rfl⟩
  refine u_step (o_pick_or rfl rfl rfl ?_)
  refine u_nil ?_
  refine hK4 _ ?_
  refine WP.cond rfl (fun hc5 => ?_) (fun hc5 => ?_)
  ·
    try simp only [Q0, Q1, Q2, Q3, Q4, Q5, Q6, Q7, Q8, ge_iff_le, gt_iff_lt] at hc5
    refine WP.seq fun K6 hK6 => ?_
    refine WP.reg tabOk rfl ?_
    refine u_step (o_pcall (s14) rfl ?_)
    refine u_step (o_assign rfl ?_)
    refine u_nil ?_
    refine hK6 _ ?_
    refine WP.ret ?_
    refine ret_ok rfl ?_ (by omega) (fun t ht => (hk2 t (by omega)))
    -- ret 1
    rfl
  ·
    try simp only [Q0, Q1, Q2, Q3, Q4, Q5, Q6, Q7, Q8, ge_iff_le, gt_iff_lt] at hc5
    refine WP.skip ?_
    refine hK3 _ ?_
    refine WP.seq fun K7 hK7 => ?_
    refine WP.reg tabOk rfl ?_
    refine u_step (o_assign rfl ?_)
    refine u_step (o_assign rfl ?_)
    refine u_nil ?_
    refine hK7 _ ?_
    refine WP.seq fun K8 hK8 => ?_
    refine WP.seq fun K9 hK9 => ?_
    refine WP.reg tabOk rfl ?_
    refine u_step (o_assign rfl ?_)
    refine u_nil ?_
    refine hK9 _ ?_
    refine WP.block ?_
    refine WP.loopL (ι := Nat) (fun k => ⟨al [(0, .d (.sl 1 (ks.map (D.int .i64)))), (3, .loc nk 0), (5, .d (.int .i64 (sumK ks k : Nat))), (6, .d (.bool (hasK ks e.kind k))), (7, .d (.int .i64 (k : Nat)))], o2, (nk + 1)⟩) (fun k => 2 ≤ k ∧ k ≤ 8) (fun k => 8 - k) (fun k hA => ?_) 2 ?_ ?_
    ·
      obtain ⟨hkl, hk8⟩ := hA
      refine WP.seq fun K10 hK10 => ?_
      refine WP.seq fun K11 hK11 => ?_
      refine WP.reg tabOk rfl ?_
      refine u_step (o_move rfl ?_)
      refine u_step (o_bin_int rfl rfl (by decide) rfl ?_)
      refine u_nil ?_
      refine hK11 _ ?_
      refine WP.cond rfl (fun hc12 => ?_) (fun hc12 => ?_)
      ·
        try simp only [Q0, Q1, Q2, Q3, Q4, Q5, Q6, Q7, Q8, ge_iff_le, gt_iff_lt] at hc12
        have hk7 : k ≤ 7 := by have := hc12; (try simp at this); omega
        refine WP.skip ?_
        refine hK10 _ ?_
        refine WP.seq fun K13 hK13 => ?_
        refine WP.block ?_
        refine WP.seq fun K14 hK14 => ?_
        refine WP.reg tabOk rfl ?_
        refine u_step (o_assign rfl ?_)
        refine u_nil ?_
        refine hK14 _ ?_
        refine WP.seq fun K15 hK15 => ?_
        refine WP.seq fun K16 hK16 => ?_
        refine WP.reg tabOk rfl ?_
        refine u_step (o_assign rfl ?_)
        refine u_nil ?_
        refine hK16 _ ?_
        refine WP.block ?_
        refine WP.loopL (ι := Nat) (fun i => ⟨al [(0, .d (.sl 1 (ks.map (D.int .i64)))), (3, .loc nk 0), (5, .d (.int .i64 (sumK ks k : Nat))), (6, .d (.bool (hasK ks e.kind k))), (7, .d (.int .i64 (k : Nat))), (8, .d (.bool (decide ((k : Int) ∈ ks.take i)))), (9, .d (.int .i64 i))], o2, (nk + 1)⟩) (fun i => i ≤ ks.length) (fun i => ks.length - i) (fun i hA => ?_) 0 ?_ ?_
        ·
          have hle := hA
          refine WP.seq fun K17 hK17 => ?_
          refine WP.seq fun K18 hK18 => ?_
          refine WP.reg tabOk rfl ?_
          refine u_step (o_move rfl ?_)
          refine u_step (o_move rfl ?_)
          refine u_step (o_len_sl rfl th37 rfl ?_)
          refine u_step (o_bin_int rfl rfl (by decide) rfl ?_)
          refine u_nil ?_
          refine hK18 _ ?_
          refine WP.cond rfl (fun hc19 => ?_) (fun hc19 => ?_)
          ·
            try simp only [Q0, Q1, Q2, Q3, Q4, Q5, Q6, Q7, Q8, ge_iff_le, gt_iff_lt] at hc19
            have hil : i < ks.length := by have := hc19; (try simp at this); omega
            have hin := in_next (l := ks) (k := (k : Int)) (i := i) hil
            refine WP.skip ?_
            refine hK17 _ ?_
            refine WP.seq fun K20 hK20 => ?_
            refine WP.block ?_
            refine WP.reg tabOk rfl ?_
            refine u_step (o_move rfl ?_)
            refine u_step (o_move rfl ?_)
            apply u_guard
            · exact GC.f _
            · intro hg
              refine o_move rfl ⟨rfl, rfl, rfl⟩
            apply u_guard
            · exact GC.f _
            · intro hg
              refine o_move rfl ⟨rfl, rfl, rfl⟩
            apply u_guard
            · exact GC.f _
            · intro hg; try simp only [hg, cnd_true]; try simp only [hg, cnd_true, Bool.true_and]
              have hg2 := hg; try simp only [Q0, Q1, Q2, Q3, Q4, Q5, Q6, Q9, Qa, Qb, Qc, Qd] at hg2
              first | refine o_ia_map rfl rfl th37 rfl th3 rfl (by omega) ⟨rfl, rfl, rfl⟩ | refine o_ia_vs rfl rfl th37 rfl th3 rfl (by omega) ⟨rfl, rfl, rfl⟩
            apply u_guard
            · exact GC.f _
            · intro hg; try simp only [hg, cnd_true]; try simp only [hg, cnd_true, Bool.true_and]
              refine o_ld_el rfl th3 rfl rfl ⟨rfl, rfl, rfl⟩
            apply u_guard
            · exact GC.f _
            · intro hg
              refine o_move rfl ⟨rfl, rfl, rfl⟩
            apply u_guard
            · exact GC.f _
            · intro hg; try simp only [hg, cnd_true]; try simp only [hg, cnd_true, Bool.true_and]
              refine o_bin_int rfl rfl (by decide) rfl ⟨rfl, rfl, rfl⟩
            refine u_step (o_pick_or rfl rfl rfl ?_)
            refine u_step (o_assign rfl ?_)
            refine u_nil ?_
            refine hK20 _ ?_
            refine WP.reg tabOk rfl ?_
            refine u_step (o_move rfl ?_)
            refine u_step (o_bin_int rfl rfl (by decide) rfl ?_)
            refine u_step (o_assign rfl ?_)
            refine u_nil ?_
            -- back
            refine ⟨i + 1, by omega, by omega, ?_⟩
            refine Le.al ?_
            simp only [List.forall_mem_cons]
            refine ⟨rfl, rfl, rfl, rfl, rfl, ?_, cnt (by omega), by simp⟩
            rw [hin]; rfl
          ·
            try simp only [Q0, Q1, Q2, Q3, Q4, Q5, Q6, Q7, Q8, ge_iff_le, gt_iff_lt] at hc19
            have hie : ks.take i = ks := by have := hc19; (try simp at this); exact List.take_of_length_le (by omega)
            have hnx := has_next (l := ks) (k := e.kind) (n := k) hkl
            have hsb := (sumK_bits ks k).1
            have hsp : 2 ^ k ≤ 2 ^ 7 := Nat.pow_le_pow_right (by omega) hk7
            refine WP.exit ?_
            refine hK15 _ ?_
            refine WP.seq fun K21 hK21 => ?_
            refine WP.reg tabOk rfl ?_
            refine u_step (o_move rfl ?_)
            refine u_nil ?_
            refine hK21 _ ?_
            refine WP.cond rfl (fun hc22 => ?_) (fun hc22 => ?_)
            ·
              try simp only [Q0, Q1, Q2, Q3, Q4, Q5, Q6, Q7, Q8, ge_iff_le, gt_iff_lt] at hc22
              have hmk : (k : Int) ∈ ks := by have := hc22; simpa [hie] using this
              have hsk : sumK ks (k + 1) = 2 ^ k + sumK ks k := if_pos ⟨hkl, hmk⟩
              refine WP.seq fun K23 hK23 => ?_
              refine WP.reg tabOk rfl ?_
              refine u_step (o_move rfl ?_)
              refine u_step (o_move rfl ?_)
              refine u_step (o_bin_sh rfl rfl (shl1 (by omega) (by omega)) ?_)
              refine u_step (o_bin_int rfl rfl (by decide) rfl ?_)
              refine u_step (o_assign rfl ?_)
              refine u_nil ?_
              refine hK23 _ ?_
              refine WP.reg tabOk rfl ?_
              refine u_step (o_move rfl ?_)
              refine u_step (o_move rfl ?_)
              apply u_guard
              · exact GC.f _
              · intro hg
                refine o_fa_loc rfl th30 rfl rfl th3 (by decide) hb2 ⟨rfl, rfl, rfl⟩
              apply u_guard
              · exact GC.f _
              · intro hg; try simp only [hg, cnd_true]; try simp only [hg, cnd_true, Bool.true_and]
                refine o_ld_loc rfl th3 rfl hb2 rfl ⟨rfl, rfl, rfl⟩
              apply u_guard
              · exact GC.f _
              · intro hg
                refine o_move rfl ⟨rfl, rfl, rfl⟩
              apply u_guard
              · exact GC.f _
              · intro hg; try simp only [hg, cnd_true]; try simp only [hg, cnd_true, Bool.true_and]
                refine o_bin_int rfl rfl (by decide) rfl ⟨rfl, rfl, rfl⟩
              refine u_step (o_pick_or rfl rfl rfl ?_)
              refine u_step (o_assign rfl ?_)
              refine u_nil ?_
              refine hK13 _ ?_
              refine WP.reg tabOk rfl ?_
              refine u_step (o_move rfl ?_)
              refine u_step (o_bin_int rfl rfl (by decide) rfl ?_)
              refine u_step (o_assign rfl ?_)
              refine u_nil ?_
              -- back
              refine ⟨k + 1, ⟨by omega, by omega⟩, by omega, ?_⟩
              refine Le.al ?_
              simp only [List.forall_mem_cons]
              refine ⟨rfl, rfl, ?_, ?_, cnt (by omega), by simp⟩
              · first | (rw [hsk]; have hw : IntKind.i64.wrap (((sumK ks k : Nat) : Int) + ((2 ^ ((k : Int)).toNat : Nat) : Int)) = ((2 ^ k + sumK ks k : Nat) : Int) := (by rw [Int.toNat_natCast, wrap_i64 (by omega) (by omega)]; omega); rw [← hw]; rfl) | (rw [hsk]; rfl)
              · first | (rw [hnx, decide_eq_true hmk, Bool.true_and]; rfl) | (rw [hnx, decide_eq_false hmk, Bool.false_and, Bool.or_false]; rfl)
            ·
              try simp only [Q0, Q1, Q2, Q3, Q4, Q5, Q6, Q7, Q8, ge_iff_le, gt_iff_lt] at hc22
              have hmk : ¬ (k : Int) ∈ ks := by have := hc22; simpa [hie] using this
              have hsk : sumK ks (k + 1) = sumK ks k := if_neg (fun h => hmk h.2)
              refine WP.skip ?_
              refine hK13 _ ?_
              refine WP.reg tabOk rfl ?_
              refine u_step (o_move rfl ?_)
              refine u_step (o_bin_int rfl rfl (by decide) rfl ?_)
              refine u_step (o_assign rfl ?_)
              refine u_nil ?_
              -- back
              refine ⟨k + 1, ⟨by omega, by omega⟩, by omega, ?_⟩
              refine Le.al ?_
              simp only [List.forall_mem_cons]
              refine ⟨rfl, rfl, ?_, ?_, cnt (by omega), by simp⟩
              · first | (rw [hsk]; have hw : IntKind.i64.wrap (((sumK ks k : Nat) : Int) + ((2 ^ ((k : Int)).toNat : Nat) : Int)) = ((2 ^ k + sumK ks k : Nat) : Int) := (by rw [Int.toNat_natCast, wrap_i64 (by omega) (by omega)]; omega); rw [← hw]; rfl) | (rw [hsk]; rfl)
              · first | (rw [hnx, decide_eq_true hmk, Bool.true_and]; rfl) | (rw [hnx, decide_eq_false hmk, Bool.false_and, Bool.or_false]; rfl)
        ·
          exact Nat.zero_le _
        ·
          refine Le.al ?_
          simp only [List.forall_mem_cons]
          exact ⟨rfl, rfl, rfl, rfl, rfl, rfl, rfl, by simp⟩
      ·
        try simp only [Q0, Q1, Q2, Q3, Q4, Q5, Q6, Q7, Q8, ge_iff_le, gt_iff_lt] at hc12
        have hk8 : k = 8 := by have := hc12; (try simp at this); omega
        subst hk8
        refine WP.exit ?_
        refine hK8 _ ?_
        refine WP.seq fun K24 hK24 => ?_
        refine WP.reg tabOk rfl ?_
        refine u_step (g_bs0 th37 rfl th3 rfl rfl (by decide) fun o25 hb25 hk25 => ?_)
        have hb2_25 := (hk25 _ (by omega)).trans hb2
        refine u_step (o_move rfl ?_)
        refine u_step (g_ap rfl rfl th37 rfl th3 rfl rfl (by decide) rfl hb25 (by simp; omega) (by simp; omega) fun o26 hb26 hk26 => ?_)
        have hb2_26 := (hk26 _ (by omega) (by omega)).trans hb2_25
        refine u_step (o_pcallF (us := [.row _]) hb26 (s23 ks) rfl (by simp [SV.frz]) fun o27 hk27 => ?_)
        have hb2_27 := (hk27 _ (by omega)).trans hb2_26
        refine u_step (o_assign rfl ?_)
        refine u_nil ?_
        refine hK24 _ ?_
        refine WP.seq fun K28 hK28 => ?_
        refine WP.seq fun K29 hK29 => ?_
        refine WP.reg tabOk rfl ?_
        refine u_step (o_pcall (s14) rfl ?_)
        refine u_step (o_not rfl ?_)
        refine u_step (o_move rfl ?_)
        apply u_guard
        · exact GC.f _
        · intro hg
          refine o_move rfl ⟨rfl, rfl, rfl⟩
        apply u_guard
        · exact GC.f _
        · intro hg
          refine o_move rfl ⟨rfl, rfl, rfl⟩
        apply u_guard
        · exact GC.f _
        · intro hg; try simp only [hg, cnd_true]; try simp only [hg, cnd_true, Bool.true_and]
          refine o_bin_int rfl rfl (by decide) rfl ⟨rfl, rfl, rfl⟩
        refine u_step (o_pick_or rfl rfl rfl ?_)
        refine u_nil ?_
        refine hK29 _ ?_
        refine WP.cond rfl (fun hc30 => ?_) (fun hc30 => ?_)
        ·
          try simp only [Q0, Q1, Q2, Q3, Q4, Q5, Q6, Q7, Q8, ge_iff_le, gt_iff_lt] at hc30
          have hl := hc30
          simp [ofN_sum] at hl
        ·
          try simp only [Q0, Q1, Q2, Q3, Q4, Q5, Q6, Q7, Q8, ge_iff_le, gt_iff_lt] at hc30
          refine WP.skip ?_
          refine hK28 _ ?_
          refine WP.seq fun K31 hK31 => ?_
          refine WP.reg tabOk rfl ?_
          refine u_step (o_move rfl ?_)
          refine u_step (o_bin_int rfl rfl (by decide) rfl ?_)
          refine u_step (o_move rfl ?_)
          apply u_guard
          · exact GC.f _
          · intro hg
            refine o_move rfl ⟨rfl, rfl, rfl⟩
          apply u_guard
          · exact GC.f _
          · intro hg; try simp only [hg, cnd_true]; try simp only [hg, cnd_true, Bool.true_and]
            refine o_bu rfl th24 rfl rfl ⟨rfl, rfl, rfl⟩
          apply u_guard
          · exact GC.f _
          · intro hg
            refine o_ld_agg rfl th30 rfl hb2_27 rfl rfl rfl ⟨rfl, rfl, rfl⟩
          apply u_guard
          · exact GC.f _
          · intro hg; try simp only [hg, cnd_true]; try simp only [hg, cnd_true, Bool.true_and]
            have hg2 := hg; try simp only [Q0, Q1, Q2, Q3, Q4, Q5, Q6, Q9, Qa, Qb, Qc, Qd] at hg2
            refine o_pcall (PSpec.le2X (s17 ⟨[], [], (ofN ks 0 : Nat)⟩ e ⟨by have := ofN_lt ks 0 (by omega); simp only; omega, by have := ofN_lt ks 0 (by omega); simp only; omega⟩ ok) (by simp [encF, D.le, D.les, D.leaves, D.width])) rfl ⟨rfl, rfl, rfl⟩
          apply u_guard
          · exact GC.f _
          · intro hg
            refine o_move rfl ⟨rfl, rfl, rfl⟩
          apply u_guard
          · exact GC.f _
          · intro hg; try simp only [hg, cnd_true]; try simp only [hg, cnd_true, Bool.true_and]
            refine o_move rfl ⟨rfl, rfl, rfl⟩
          apply u_guard
          · exact GC.ct _ _
          · intro hg
            refine o_ld_agg rfl th30 rfl hb2_27 rfl rfl rfl ⟨rfl, rfl, rfl⟩
          apply u_guard
          · exact GC.ct _ _
          · intro hg; try simp only [hg, cnd_true]; try simp only [hg, cnd_true, Bool.true_and]
            refine o_pcall (s24 e ok) rfl ⟨rfl, rfl, rfl⟩
          apply u_guard
          · exact GC.f _
          · intro hg; try simp only [hg, cnd_true]; try simp only [hg, cnd_true, Bool.true_and]
            refine o_pick_and rfl rfl rfl ⟨rfl, rfl, rfl⟩
          apply u_guard
          · exact GC.f _
          · intro hg; try simp only [hg, cnd_true]; try simp only [hg, cnd_true, Bool.true_and]
            refine o_bin_eqb rfl rfl th4 rfl ⟨rfl, rfl, rfl⟩
          refine u_step (o_pick_or rfl rfl rfl ?_)
          refine u_step (o_assign rfl ?_)
          refine u_nil ?_
          refine hK31 _ ?_
          refine WP.ret ?_
          refine ret_ok rfl ?_ (by omega) (fun t ht => (hk27 t (by omega)).trans ((hk26 t (by omega) (by omega)).trans ((hk25 t (by omega)).trans ((hk2 t (by omega))))))
          -- ret 2
          refine congrArg D.bool ?_
          by_cases hz : ofN ks 0 = 0
          · simp [hz]
          · rw [ofN_sum] at hz ⊢
            rw [match_kinds hz]
            simp
    ·
      exact ⟨by omega, by omega⟩
    ·
      refine Le.al ?_
      simp only [List.forall_mem_cons]
      refine ⟨rfl, rfl, ?_, ?_, rfl, by simp⟩
      · rfl
      · show SV.d (.bool false) = _
        unfold hasK
        rw [decide_eq_false (by omega)]


section
variable {H : Type} {enc : TypeId × Value → H} {w : World} {base fuel : Nat} {spare : Nat → Bool} {held : Bool} {cs : List Value} {x : DataW H × List MemPlace}
def AInt (n : Int) (d : DataW H) : Prop := I64 n
theorem open_ints (h : DataW.trod enc Tryz.prog w base spare held fuel 37 cs = some x) : ∃ l : List Int, RdC w [.sl 1 (l.map (D.int .i64))] cs ∧ SlD AInt l x.1 :=
  rd_slice (z := 1) (D.int .i64) AInt ((tabOk 37 _ th37).slice rfl) (cells_of (tabOk 3 _ th3)) (by decide) (fun _ => rfl) (fun _ => trivial) h fun n cs x _ h => by
    obtain ⟨k, k1, k2, k3⟩ := rd_int ((tabOk 3 _ th3).int rfl) h
    exact ⟨k, k1, wf_i64 k3⟩
theorem all_len : ∀ (es : List (DataW H)), es.length ≤ Rows.uptoBulkAll es
  | [] => by simp [Rows.uptoBulkAll]
  | e :: es => by
    have := all_len es
    have := one_le e
    simp only [List.length_cons, Rows.uptoBulkAll]; omega
theorem sl_len {α : Type} {A : α → DataW H → Prop} {l : List α} {d : DataW H} (h : SlD A l d) : l.length ≤ Rows.uptoBulk d := by
  rcases h with ⟨_, rfl⟩ | ⟨es, sp, rfl, h1, h2⟩
  · simp
  · have := all_len es
    simp only [Rows.uptoBulk]; omega
end
end Go.Proofs.YtpkcbdhjnnnkbaaGreat.Abs

set_option linter.unusedVariables false
set_option linter.unusedSimpArgs false
set_option maxRecDepth 10000
namespace Go.Proofs.YtpkcbdhjnnnkbaaGreat.lawFilterKinds
open Go Abs
open Go.ChangeShapes Go.WideShapes Go.ChangeAt Go.RowKit
theorem own : ownKnob Tryz.prog.godebug = none := by kernel_rfl
theorem laid : laidOutB Tryz.prog = true := by kernel_rfl
theorem contract (H : Type) (enc : TypeId × Value → H) (W : World) (base : Nat) (args : Array Value) (ds gs : List (DataW H)) (before : List MemPlace)
    (hval : ∀ (j : Nat) t v, Tryz.f5.params[j]? = some t → args[j]? = some v → Value.okWide Tryz.prog W .any base t v)
    (hW : DataW.Whole enc Tryz.prog Tryz.f5.params.toList Rows.filterKindsSpec.vars false W args.toList ds gs before) (hk : Rows.uptoSmall H (ds ++ gs) = true) :
    Calls Tryz.prog 5 args W fun e W' => ∃ v, e = .returned v ∧ Rows.filterKindsSpec.post enc Tryz.prog Tryz.f5 false true false false W args v W' := by
  have hW' := hW
  obtain ⟨p, q, hA0, hV, rfl, hfz, hnd⟩ := hW
  have hA : DataW.TrodAll enc Tryz.prog W 0 (fun _ => true) true Tryz.f5.params.toList args.toList ds p := hA0
  rw [Tryz.params5] at hA hval
  obtain ⟨v0, vs0, d0, ds0, p0, q0, hargs, rfl, rfl, h0, r0⟩ := trodAll_cons hA
  obtain ⟨v1, vs1, d1, ds1, p1, q1, rfl, rfl, rfl, h1, r1⟩ := trodAll_cons r0
  obtain ⟨rfl, rfl, rfl⟩ := trodAll_nil r1
  obtain rfl : args = #[v0, v1] := by cases args; simp_all
  obtain ⟨rfl, rfl⟩ := trodVars_none hV
  clear hA0
  simp only [List.append_nil] at hW' hk
  have hb : Rows.uptoBulkAll [d0, d1] ≤ 1048576 := of_decide_eq_true hk
  simp only [Rows.uptoBulkAll] at hb
  obtain ⟨n0, t0⟩ := h0
  obtain ⟨ks, c0, a0⟩ := open_ints t0
  have x0 := rdv_one (hval 0 37 v0 rfl rfl) (tabOk _ _ th37) rfl c0
  obtain ⟨n1, t1⟩ := h1
  obtain ⟨e, c1, a1⟩ := open_etr t1
  have x1 := rdv_struct (hval 1 30 v1 rfl rfl) (tabOk _ _ th30) rfl c1 rfl rfl
  have ok : OkE e := okE_of (d := d1) a1 (by omega)
  have okd := okEd_of (d := d1) a1 (by omega)
  have hks := sl_len (d := d0) a0
  refine (calls_of_spec (vs := [v0, v1]) (ds := [.sl 1 (ks.map (D.int .i64)), encE e]) Tryz.func5 (by kernel_rfl) (by kernel_rfl) (s5 ks e ok okd (by omega)) ⟨rfl, fun i x v hx hv => ?_⟩).mono fun e W' ⟨he, hg⟩ => ?_
  · match i, hx, hv with
    | 0, hx, hv => simp at hx hv; subst hx; subst hv; exact x0
    | 1, hx, hv => simp at hx hv; subst hx; subst hv; exact x1
    | i + 2, hx, hv => simp at hx
  subst he
  exact ⟨_, rfl, post_of_below (pa := p0 ++ (p1 ++ [])) (pv := []) hW' (fun _ _ _ => trodAll_cons_mk (shut_bool Tryz.underlying4 _) trodAll_mk0) (fun sp hs => trodAll_stays laid hg (by kernel_rfl) hA (fun x hx => hs x (by simpa using hx)) (fun x hx => hW'.lt x (by simpa using hx))) (fun _ _ => rfl) (by simp) hg (ok_one (by kernel_rfl) rfl (okWide_bool_mk Tryz.underlying4 _))⟩
set_option maxRecDepth 100000 in
theorem lifted (os : Os) (started : os.Started) (H : Type) (enc : TypeId × Value → H) (F : Stop.Interp) :
    ReturnsInHanded {} Tryz.checked os 5 .any ((Rows.OpenSpec.upto Rows.filterKindsSpec).pre6 enc Tryz.prog Tryz.f5 Rows.filterKindsUptoRow.domain false) (((Rows.OpenSpec.upto Rows.filterKindsSpec).at F).post enc Tryz.prog Tryz.f5 false true false false) := by
  refine returnsInHanded_of_cond (C := Tryz.checked) (s := Rows.OpenSpec.upto Rows.filterKindsSpec) (k := Rows.uptoSmall) rfl own started (by kernel_rfl) Tryz.func5
    (OpenSpec.witness (enc := enc) (C := Tryz.checked) (s := Rows.OpenSpec.upto Rows.filterKindsSpec) (k := Rows.uptoSmall) rfl false ⟨#[], #[.slice none 0 0, .agg #[.int .i64 0, .int .i64 0, .string ⟨#[]⟩, .string ⟨#[]⟩, .int .i64 0, .int .i64 0, .string ⟨#[]⟩, .slice none 0 0, .slice none 0 0, .int .i64 0, .int .i64 0, .string ⟨#[]⟩, .slice none 0 0, .slice none 0 0, .slice none 0 0, .int .i64 0, .int .i64 0]], []⟩ 8 (by kernel_rfl) (by kernel_rfl) (by kernel_rfl)
      (x := ([.nil, .agg [.lit (.int .i64 0), .lit (.int .i64 0), .lit (.string []), .lit (.string []), .agg [.lit (.int .i64 0), .lit (.int .i64 0), .lit (.string []), .nil, .nil], .agg [.lit (.int .i64 0), .lit (.int .i64 0), .lit (.string []), .nil, .nil], .nil, .lit (.int .i64 0), .lit (.int .i64 0)]], [], [])) (by kernel_rfl) rfl (by kernel_rfl)) ?_
  intro W base args ds gs before hval hW _ hk _
  exact contract H enc W base args ds gs before hval hW hk
theorem over : Rows.filterKindsUptoRow.holds Tryz.pinned (Rows.OpenSpec.upto Rows.filterKindsSpec) :=
  OpenClaim.holds_of_cond 5 Tryz.f5 rfl rfl rfl rfl rfl rfl rfl ⟨rfl, rfl, rfl, rfl, rfl⟩ rfl rfl rfl rfl rfl (by kernel_rfl) Tryz.func5 (by kernel_rfl)
    (of_decide_eq_true (by kernel_rfl)) (by unfold Func.isWrapper; first | (rw [if_pos (by decide +kernel)]; kernel_rfl) | (rw [if_neg (by decide +kernel)]; exact ⟨rfl, rfl⟩))
    (fun os started H enc _ F => lifted os started H enc F)
end Go.Proofs.YtpkcbdhjnnnkbaaGreat.lawFilterKinds
namespace Go.Proofs.YtpkcbdhjnnnkbaaGreat
theorem filterKinds_upto_holds : Rows.FilterKindsUptoSaid := lawFilterKinds.over
end Go.Proofs.YtpkcbdhjnnnkbaaGreat
