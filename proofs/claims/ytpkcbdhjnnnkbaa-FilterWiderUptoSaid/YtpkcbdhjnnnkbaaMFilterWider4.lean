/- Part 4 of the proof that FilterWider: called with any filter and any entry that hold together at most 1048576 values and letters, the law answers true, and both read afterwards as they read before. -/
import Derived.Test.YtpkcbdhjnnnkbaaMFilterWider3
import Derived.Laws.RangeAny
import Derived.Laws.RangeString
import Derived.Test.YtpkcbdhjnnnkbaaMFilterWider2
import Derived.Test.YtpkcbdhjnnnkbaaRows
import Derived.WalkKit
import Derived.ProofKit
import Derived.OpenShut
import Derived.JoinedCond
import Derived.ChangeArms
import Derived.Carry
set_option linter.unusedVariables false
set_option linter.unusedSimpArgs false
set_option maxRecDepth 10000
namespace Go.Proofs.Ytpkcbdhjnnnkbaa.Abs
open Go
/-- A text that may be a collection's name. -/
def collV (s : Str) : Bool := decide (1 ≤ s.length ∧ s.length ≤ 32 ∧ (36 : UInt8) ∉ s ∧ (0 : UInt8) ∉ s)
/-- Nothing at all. -/
def noneV (v : Val) : Bool := decide (v.kind = 0 ∧ v.int = 0 ∧ v.text = [] ∧ v.items = [] ∧ v.names = [])
theorem same_iff {k k' i i' : Int} {t t' : Str} {xs ys : List Val} {ns ms : List Str} : sameV (.mk k i t xs ns) (.mk k' i' t' ys ms) = true ↔ k = k' ∧ i = i' ∧ t = t' ∧ xs = ys ∧ ns = ms := by
  simp [sameV]
theorem same_refl (v : Val) : sameV v v = true := by simp [sameV]
theorem same_eq {v w : Val} : sameV v w = true ↔ v = w := by simp [sameV]
theorem same_ne {v w : Val} (h : v ≠ w) : sameV v w = false := by simp [sameV, h]
theorem any_not {α : Type} (xs : List α) (p : α → Bool) : (xs.any fun x => !p x) = !xs.all p := by
  induction xs with
  | nil => rfl
  | cons x xs ih => simp [ih, Bool.not_and]
theorem none_mk (k i : Int) (t : Str) (xs : List Val) (ns : List Str) : noneV (.mk k i t xs ns) = decide (k = 0 ∧ i = 0 ∧ t = [] ∧ xs = [] ∧ ns = []) := rfl
theorem none_same (v : Val) : sameV v (.mk 0 0 [] [] []) = noneV v := by
  cases v
  rw [Bool.eq_iff_iff, same_iff, none_mk, decide_eq_true_eq]

theorem fn71 : FnOk Try.prog 71 6 [2] (bodyOf Try.f71) := ⟨Try.f71, Try.func71, by kernel_rfl, by decide, by kernel_rfl, by kernel_rfl⟩
theorem s71 (s : Str) : PSpec Try.prog 71 [.d (.str s)] (.d (.bool (!nameV s))) := by
 refine PSpec.of fn71 (by simp) fun o nk => ?_
 refine wr ?_
 refine ua ?_
 refine u_nil ?_
 refine wr ?_
 refine um ?_
 refine u_step (o_pcall (s72 _) rfl ?_)
 refine uN ?_
 refine ua ?_
 refine u_nil ?_
 refine WP.ret ?_
 refine ret_ok rfl ?_ (by omega) (fun _ _ => rfl)
 -- ret 1
 rfl

theorem fn40 : FnOk Try.prog 40 18 [2] (bodyOf Try.f40) := ⟨Try.f40, Try.func40, by kernel_rfl, by decide, by kernel_rfl, by kernel_rfl⟩
theorem s40 (ns : List Str) : PSpec Try.prog 40 [.d (.sl 1 (ns.map .str))] (.d (.bool (pathV ns))) := by
 refine PSpec.of fn40 (by simp) fun o nk => ?_
 refine wr ?_
 refine ua ?_
 refine u_nil ?_
 refine wr ?_
 refine u_step (o_assignV (v := .clo _ _ _) rfl ?_)
 refine u_nil ?_
 refine wr ?_
 refine um ?_
 refine un th22 ?_
 refine ub ?_
 refine um ?_
 apply gT
 · rfl
 · intro hg
   exact pm
 apply gT
 · rfl
 · intro hg; try simp only [hg, ct]; try simp only [hg, ct, Bt]
   exact pn th22
 apply gT
 · rfl
 · intro hg; try simp only [hg, ct]; try simp only [hg, ct, Bt]
   exact pb
 refine uA ?_
 refine um ?_
 apply gT
 · rfl
 · intro hg
   exact pm
 apply gT
 · rfl
 · intro hg
   refine o_moveV (v := .clo _ _ _) rfl ⟨rfl, rfl, rfl⟩
 apply gT
 · rfl
 · intro hg; try simp only [hg, ct]; try simp only [hg, ct, Bt]
   refine o_scall (s73 ns 71 [] [] (fun s => !nameV s) (fun x hx => s71 x _ _)) rfl ⟨rfl, rfl, rfl⟩
 apply gT
 · rfl
 · intro hg; try simp only [hg, ct]; try simp only [hg, ct, Bt]
   exact pN
 refine uA ?_
 refine ua ?_
 refine u_nil ?_
 refine WP.ret ?_
 refine ret_ok rfl ?_ (by omega) (fun _ _ => rfl)
 -- ret 1
 refine congrArg D.bool ?_
 rw [any_not, Bool.eq_iff_iff]
 simp [pathV]
 grind

theorem fn65 : FnOk Try.prog 65 12 [4] (bodyOf Try.f65) := ⟨Try.f65, Try.func65, by kernel_rfl, by decide, by kernel_rfl, by kernel_rfl⟩
theorem s65 (a b : Int) : PSpec Try.prog 65 [.d (.int .i64 a), .d (.int .i64 b)] (.d (.bool (decide (0 ≤ a ∧ a ≤ b)))) := by
 refine PSpec.of fn65 (by simp) fun o nk => ?_
 refine wr ?_
 refine ua ?_
 refine u_nil ?_
 refine wr ?_
 refine um ?_
 refine ub ?_
 refine um ?_
 apply gT
 · rfl
 · intro hg
   exact pm
 apply gT
 · rfl
 · intro hg
   exact pm
 apply gT
 · rfl
 · intro hg; try simp only [hg, ct]; try simp only [hg, ct, Bt]
   exact pb
 refine uA ?_
 refine ua ?_
 refine u_nil ?_
 refine WP.ret ?_
 refine ret_ok rfl ?_ (by omega) (fun _ _ => rfl)
 -- ret 1
 refine congrArg D.bool ?_
 rw [Bool.eq_iff_iff]
 simp

theorem fn95 : FnOk Try.prog 95 26 [2] (bodyOf Try.f95) := ⟨Try.f95, Try.func95, by kernel_rfl, by decide, by kernel_rfl, by kernel_rfl⟩
theorem s95 (v : Val) (hsz : szV v ≤ 1099511627776) : PSpec Try.prog 95 [.d (encV v)] (.d (.bool (noneV v))) := by
 obtain ⟨kd, it, tx, xs, ns⟩ := v
 have hsz2 : 1 + tx.length + szVs xs + szN ns ≤ 1099511627776 := hsz
 have hxl := szVs_len xs
 have hnl := szN_len ns
 refine PSpec.of fn95 (by simp) fun o nk => ?_
 refine wr ?_
 refine u_step (g_box rfl fun o2 hb2 hk2 => ?_)
 refine ua ?_
 refine u_nil ?_
 refine wr ?_
 refine uf th27 th3 hb2 ?_
 refine ul th3 hb2 ?_
 refine ub ?_
 refine um ?_
 apply gT
 · rfl
 · intro hg
   exact pf th27 th3 hb2
 apply gT
 · rfl
 · intro hg; try simp only [hg, ct]; try simp only [hg, ct, Bt]
   exact pl th3 hb2
 apply gT
 · rfl
 · intro hg; try simp only [hg, ct]; try simp only [hg, ct, Bt]
   exact pb
 refine uA ?_
 refine um ?_
 apply gT
 · rfl
 · intro hg
   exact pf th27 th9 hb2
 apply gT
 · rfl
 · intro hg; try simp only [hg, ct]; try simp only [hg, ct, Bt]
   exact pl th9 hb2
 apply gT
 · rfl
 · intro hg; try simp only [hg, ct]; try simp only [hg, ct, Bt]
   refine o_bin_str rfl (show _ = SV.d (.str []) from rfl) rfl ⟨rfl, rfl, rfl⟩
 refine uA ?_
 refine um ?_
 apply gT
 · rfl
 · intro hg
   exact pf th27 th25 hb2
 apply gT
 · rfl
 · intro hg; try simp only [hg, ct]; try simp only [hg, ct, Bt]
   exact pl th25 hb2
 apply gT
 · rfl
 · intro hg; try simp only [hg, ct]; try simp only [hg, ct, Bt]
   exact pn th25
 apply gT
 · rfl
 · intro hg
   exact pf th27 th22 hb2
 apply gT
 · rfl
 · intro hg; try simp only [hg, ct]; try simp only [hg, ct, Bt]
   exact pl th22 hb2
 apply gT
 · rfl
 · intro hg; try simp only [hg, ct]; try simp only [hg, ct, Bt]
   exact pn th22
 apply gT
 · rfl
 · intro hg; try simp only [hg, ct]; try simp only [hg, ct, Bt]
   exact pb
 apply gT
 · rfl
 · intro hg; try simp only [hg, ct]; try simp only [hg, ct, Bt]
   exact pb
 refine uA ?_
 refine ua ?_
 refine u_nil ?_
 refine WP.ret ?_
 refine ret_ok rfl ?_ (by omega) (fun t ht => (hk2 t (by omega)))
 -- ret 1
 skip
 refine congrArg D.bool ?_
 rw [wrap_i64 (by rw [encVs_length, List.length_map]; omega) (by rw [encVs_length, List.length_map]; omega), Bool.eq_iff_iff]
 rw [none_mk]
 simp only [Bool.and_eq_true, beq_iff_eq, decide_eq_true_eq, encVs_length, List.length_map]
 rw [← List.length_eq_zero_iff (l := xs), ← List.length_eq_zero_iff (l := ns)]
 grind

theorem fn54 : FnOk Try.prog 54 26 [2] (bodyOf Try.f54) := ⟨Try.f54, Try.func54, by kernel_rfl, by decide, by kernel_rfl, by kernel_rfl⟩
theorem s54 (v : Val) (hsz : szV v ≤ 1099511627776) : PSpec Try.prog 54 [.d (encV v)] (.d (.bool (noneV v))) := by
 obtain ⟨kd, it, tx, xs, ns⟩ := v
 have hsz2 : 1 + tx.length + szVs xs + szN ns ≤ 1099511627776 := hsz
 have hxl := szVs_len xs
 have hnl := szN_len ns
 refine PSpec.of fn54 (by simp) fun o nk => ?_
 refine wr ?_
 refine u_step (g_box rfl fun o2 hb2 hk2 => ?_)
 refine ua ?_
 refine u_nil ?_
 refine wr ?_
 refine uf th27 th3 hb2 ?_
 refine ul th3 hb2 ?_
 refine ub ?_
 refine um ?_
 apply gT
 · rfl
 · intro hg
   exact pf th27 th3 hb2
 apply gT
 · rfl
 · intro hg; try simp only [hg, ct]; try simp only [hg, ct, Bt]
   exact pl th3 hb2
 apply gT
 · rfl
 · intro hg; try simp only [hg, ct]; try simp only [hg, ct, Bt]
   exact pb
 refine uA ?_
 refine um ?_
 apply gT
 · rfl
 · intro hg
   exact pf th27 th9 hb2
 apply gT
 · rfl
 · intro hg; try simp only [hg, ct]; try simp only [hg, ct, Bt]
   exact pl th9 hb2
 apply gT
 · rfl
 · intro hg; try simp only [hg, ct]; try simp only [hg, ct, Bt]
   refine o_bin_str rfl (show _ = SV.d (.str []) from rfl) rfl ⟨rfl, rfl, rfl⟩
 refine uA ?_
 refine um ?_
 apply gT
 · rfl
 · intro hg
   exact pf th27 th25 hb2
 apply gT
 · rfl
 · intro hg; try simp only [hg, ct]; try simp only [hg, ct, Bt]
   exact pl th25 hb2
 apply gT
 · rfl
 · intro hg; try simp only [hg, ct]; try simp only [hg, ct, Bt]
   exact pn th25
 apply gT
 · rfl
 · intro hg
   exact pf th27 th22 hb2
 apply gT
 · rfl
 · intro hg; try simp only [hg, ct]; try simp only [hg, ct, Bt]
   exact pl th22 hb2
 apply gT
 · rfl
 · intro hg; try simp only [hg, ct]; try simp only [hg, ct, Bt]
   exact pn th22
 apply gT
 · rfl
 · intro hg; try simp only [hg, ct]; try simp only [hg, ct, Bt]
   exact pb
 apply gT
 · rfl
 · intro hg; try simp only [hg, ct]; try simp only [hg, ct, Bt]
   exact pb
 refine uA ?_
 refine ua ?_
 refine u_nil ?_
 refine WP.ret ?_
 refine ret_ok rfl ?_ (by omega) (fun t ht => (hk2 t (by omega)))
 -- ret 1
 skip
 refine congrArg D.bool ?_
 rw [wrap_i64 (by rw [encVs_length, List.length_map]; omega) (by rw [encVs_length, List.length_map]; omega), Bool.eq_iff_iff]
 rw [none_mk]
 simp only [Bool.and_eq_true, beq_iff_eq, decide_eq_true_eq, encVs_length, List.length_map]
 rw [← List.length_eq_zero_iff (l := xs), ← List.length_eq_zero_iff (l := ns)]
 grind

end Go.Proofs.Ytpkcbdhjnnnkbaa.Abs

set_option linter.unusedVariables false
set_option linter.unusedSimpArgs false
set_option maxRecDepth 10000
namespace Go.Proofs.Ytpkcbdhjnnnkbaa.Abs
open Go

theorem fn13 : FnOk Try.prog 13 81 [4] (bodyOf Try.f13) := ⟨Try.f13, Try.func13, by kernel_rfl, by decide, by kernel_rfl, by kernel_rfl⟩
theorem s13A (m : Nat) : ∀ (v w : Val), SizeOf.sizeOf v < m → PSpec Try.prog 13 [.d (encV v), .d (encV w)] (.d (.bool (sameV v w))) := by
 induction m with
 | zero => intros; omega
 | succ m ih =>
  rintro ⟨kd, it, tx, xs, ns⟩ ⟨kd2, it2, tx2, ys, ms⟩ hv
  refine PSpec.bd fun hbd => ?_
  have hx : xs.length ≤ 9223372036854775807 := by simpa [encVs_length] using hbd.1.2.2.2.1.1
  have hx2 : ns.length ≤ 9223372036854775807 := by simpa using hbd.1.2.2.2.2.1.1
  refine PSpec.of fn13 (by simp) fun o nk => ?_
  refine wr ?_
  refine u_step (g_box rfl fun o2 hb2 hk2 => ?_)
  refine u_step (g_box rfl fun o3 hb3 hk3 => ?_)
  have hb2_3 := (hk3 _ (by omega)).trans hb2
  refine ua ?_
  refine u_nil ?_
  refine WP.seq fun K4 hK4 => ?_
  refine wr ?_
  refine uf th27 th3 hb2_3 ?_
  refine ul th3 hb2_3 ?_
  refine uf th27 th3 hb3 ?_
  refine ul th3 hb3 ?_
  refine ub ?_
  refine um ?_
  apply gF
  · rfl
  · intro hg
    exact pf th27 th3 hb2_3
  apply gF
  · rfl
  · intro hg; try simp only [hg, ct]; try simp only [hg, ct, Bt]
    exact pl th3 hb2_3
  apply gF
  · rfl
  · intro hg
    exact pf th27 th3 hb3
  apply gF
  · rfl
  · intro hg; try simp only [hg, ct]; try simp only [hg, ct, Bt]
    exact pl th3 hb3
  apply gF
  · rfl
  · intro hg; try simp only [hg, ct]; try simp only [hg, ct, Bt]
    exact pb
  refine uO ?_
  refine um ?_
  apply gF
  · rfl
  · intro hg
    exact pf th27 th9 hb2_3
  apply gF
  · rfl
  · intro hg; try simp only [hg, ct]; try simp only [hg, ct, Bt]
    exact pl th9 hb2_3
  apply gF
  · rfl
  · intro hg
    exact pf th27 th9 hb3
  apply gF
  · rfl
  · intro hg; try simp only [hg, ct]; try simp only [hg, ct, Bt]
    exact pl th9 hb3
  apply gF
  · rfl
  · intro hg; try simp only [hg, ct]; try simp only [hg, ct, Bt]
    exact ps
  refine uO ?_
  refine um ?_
  apply gF
  · rfl
  · intro hg
    exact pf th27 th25 hb2_3
  apply gF
  · rfl
  · intro hg; try simp only [hg, ct]; try simp only [hg, ct, Bt]
    exact pl th25 hb2_3
  apply gF
  · rfl
  · intro hg; try simp only [hg, ct]; try simp only [hg, ct, Bt]
    exact pn th25
  apply gF
  · rfl
  · intro hg
    exact pf th27 th25 hb3
  apply gF
  · rfl
  · intro hg; try simp only [hg, ct]; try simp only [hg, ct, Bt]
    exact pl th25 hb3
  apply gF
  · rfl
  · intro hg; try simp only [hg, ct]; try simp only [hg, ct, Bt]
    exact pn th25
  apply gF
  · rfl
  · intro hg; try simp only [hg, ct]; try simp only [hg, ct, Bt]
    exact pb
  refine uO ?_
  refine um ?_
  apply gF
  · rfl
  · intro hg
    exact pf th27 th22 hb2_3
  apply gF
  · rfl
  · intro hg; try simp only [hg, ct]; try simp only [hg, ct, Bt]
    exact pl th22 hb2_3
  apply gF
  · rfl
  · intro hg; try simp only [hg, ct]; try simp only [hg, ct, Bt]
    exact pn th22
  apply gF
  · rfl
  · intro hg
    exact pf th27 th22 hb3
  apply gF
  · rfl
  · intro hg; try simp only [hg, ct]; try simp only [hg, ct, Bt]
    exact pl th22 hb3
  apply gF
  · rfl
  · intro hg; try simp only [hg, ct]; try simp only [hg, ct, Bt]
    exact pn th22
  apply gF
  · rfl
  · intro hg; try simp only [hg, ct]; try simp only [hg, ct, Bt]
    exact pb
  refine uO ?_
  refine u_nil ?_
  refine wc (fun hc6 => ?_) (fun hc6 => ?_) <;> try simp only [Q0, Q1, Q2, Q3, Q4, Q5, Q6, Q7, Q8, ge_iff_le, gt_iff_lt] at hc6
  ·
   refine wr ?_
   refine ua ?_
   refine u_nil ?_
   refine WP.ret ?_
   refine ret_ok rfl ?_ (by omega) (fun t ht => (hk3 t (by omega)).trans ((hk2 t (by omega))))
   -- ret 1
   clear hK4
   refine congrArg D.bool (same_ne ?_).symm
   intro e
   simp only [Val.mk.injEq] at e
   obtain ⟨rfl, rfl, rfl, rfl, rfl⟩ := e
   simp at hc6
  ·
   have hq := hc6
   simp [encVs_length] at hq
   obtain ⟨⟨⟨⟨q1, q2⟩, q3⟩, q4⟩, q5⟩ := hq
   refine WP.skip ?_
   refine hK4 _ ?_
   refine WP.seq fun K8 hK8 => ?_
   refine wr ?_
   refine ua ?_
   refine u_nil ?_
   refine WP.block ?_
   refine WP.loopL (ι := Nat) (fun i => ⟨al [(2, .loc nk 0), (3, .loc (nk + 1) 0), (5, .d (.int .i64 i))], o3, ((nk + 1) + 1)⟩) (fun i => i ≤ xs.length ∧ ∀ (j : Nat) (hj : j < xs.length) (hk : j < ys.length), j < i → xs[j] = ys[j]) (fun i => xs.length - i) (fun i hA => ?_) 0 ?_ ?_
   ·
    obtain ⟨hle_i, hin_i⟩ := hA
    refine WP.seq fun K10 hK10 => ?_
    refine wr ?_
    refine um ?_
    refine uf th27 th25 hb2_3 ?_
    refine ul th25 hb2_3 ?_
    refine un th25 ?_
    refine ub ?_
    refine u_nil ?_
    refine wc (fun hc12 => ?_) (fun hc12 => ?_) <;> try simp only [Q0, Q1, Q2, Q3, Q4, Q5, Q6, Q7, Q8, ge_iff_le, gt_iff_lt] at hc12
    ·
     refine WP.skip ?_
     refine hK10 _ ?_
     refine WP.seq fun K13 hK13 => ?_
     refine WP.block ?_
     refine wd ?_
     refine df th27 th25 hb2_3 ?_
     refine dl th25 hb2_3 ?_
     refine dm ?_
     first | refine d_step (o_ia_map rfl rfl th25 rfl th27 rfl (by omega) ⟨rfl, rfl, rfl⟩) ?_ | refine d_step (o_ia_vs rfl rfl th25 rfl th27 rfl (by omega) ⟨rfl, rfl, rfl⟩) ?_
     refine dL th27 ?_
     refine df th27 th25 hb3 ?_
     refine dl th25 hb3 ?_
     refine dm ?_
     first | refine d_step (o_ia_map rfl rfl th25 rfl th27 rfl (by omega) ⟨rfl, rfl, rfl⟩) ?_ | refine d_step (o_ia_vs rfl rfl th25 rfl th27 rfl (by omega) ⟨rfl, rfl, rfl⟩) ?_
     refine dL th27 ?_
     refine d_step (o_pcall (ih _ _ (by exact items_lt' (by omega) hv)) rfl ⟨rfl, rfl, rfl⟩) ?_
     refine dN ?_
     refine d_nil ?_
     refine wc (fun hc15 => ?_) (fun hc15 => ?_) <;> try simp only [Q0, Q1, Q2, Q3, Q4, Q5, Q6, Q7, Q8, ge_iff_le, gt_iff_lt] at hc15
     ·
      refine wr ?_
      refine ua ?_
      refine u_nil ?_
      refine WP.ret ?_
      refine ret_ok rfl ?_ (by omega) (fun t ht => (hk3 t (by omega)).trans ((hk2 t (by omega))))
      -- ret 2
      clear hK4 hK8 hK10 hK13
      refine congrArg D.bool (same_ne ?_).symm
      intro e
      simp only [Val.mk.injEq] at e
      obtain ⟨rfl, rfl, rfl, rfl, rfl⟩ := e
      rw [same_refl] at hc15; cases hc15
     ·
      refine WP.skip ?_
      refine hK13 _ ?_
      refine WP.reg tabOk rfl ?_
      refine um ?_
      refine ub ?_
      refine ua ?_
      refine u_nil ?_
      -- back
      refine ⟨i + 1, ⟨by omega, ?_⟩, by omega, ?_⟩
      · intro j hj hk h1
        by_cases h2 : j = i
        · subst h2; exact same_eq.1 (by simpa using hc15)
        · exact hin_i j hj hk (by omega)
      · refine Le.al ?_
        simp only [List.forall_mem_cons]
        exact ⟨rfl, rfl, cnt (by omega), by simp⟩
    ·
     refine WP.exit ?_
     refine hK8 _ ?_
     refine WP.seq fun K17 hK17 => ?_
     refine wr ?_
     refine ua ?_
     refine u_nil ?_
     refine WP.block ?_
     refine WP.loopL (ι := Nat) (fun j => ⟨al [(2, .loc nk 0), (3, .loc (nk + 1) 0), (6, .d (.int .i64 j))], o3, ((nk + 1) + 1)⟩) (fun j => j ≤ ns.length ∧ ∀ (a : Nat) (hj : a < ns.length) (hk : a < ms.length), a < j → ns[a] = ms[a]) (fun j => ns.length - j) (fun j hA => ?_) 0 ?_ ?_
     ·
      obtain ⟨hle_j, hin_j⟩ := hA
      refine WP.seq fun K19 hK19 => ?_
      refine wr ?_
      refine um ?_
      refine uf th27 th22 hb2_3 ?_
      refine ul th22 hb2_3 ?_
      refine un th22 ?_
      refine ub ?_
      refine u_nil ?_
      refine wc (fun hc21 => ?_) (fun hc21 => ?_) <;> try simp only [Q0, Q1, Q2, Q3, Q4, Q5, Q6, Q7, Q8, ge_iff_le, gt_iff_lt] at hc21
      ·
       refine WP.skip ?_
       refine hK19 _ ?_
       refine WP.seq fun K22 hK22 => ?_
       refine WP.block ?_
       refine wd ?_
       refine df th27 th22 hb2_3 ?_
       refine dl th22 hb2_3 ?_
       refine dm ?_
       first | refine d_step (o_ia_map rfl rfl th22 rfl th9 rfl (by omega) ⟨rfl, rfl, rfl⟩) ?_ | refine d_step (o_ia_vs rfl rfl th22 rfl th9 rfl (by omega) ⟨rfl, rfl, rfl⟩) ?_
       refine dL th9 ?_
       refine df th27 th22 hb3 ?_
       refine dl th22 hb3 ?_
       refine dm ?_
       first | refine d_step (o_ia_map rfl rfl th22 rfl th9 rfl (by omega) ⟨rfl, rfl, rfl⟩) ?_ | refine d_step (o_ia_vs rfl rfl th22 rfl th9 rfl (by omega) ⟨rfl, rfl, rfl⟩) ?_
       refine dL th9 ?_
       refine ds ?_
       refine d_nil ?_
       refine wc (fun hc24 => ?_) (fun hc24 => ?_) <;> try simp only [Q0, Q1, Q2, Q3, Q4, Q5, Q6, Q7, Q8, ge_iff_le, gt_iff_lt] at hc24
       ·
        refine wr ?_
        refine ua ?_
        refine u_nil ?_
        refine WP.ret ?_
        refine ret_ok rfl ?_ (by omega) (fun t ht => (hk3 t (by omega)).trans ((hk2 t (by omega))))
        -- ret 3
        clear hK4 hK8 hK10 hK17 hK19 hK22
        refine congrArg D.bool (same_ne ?_).symm
        intro e
        simp only [Val.mk.injEq] at e
        obtain ⟨rfl, rfl, rfl, rfl, rfl⟩ := e
        simp at hc24
       ·
        refine WP.skip ?_
        refine hK22 _ ?_
        refine WP.reg tabOk rfl ?_
        refine um ?_
        refine ub ?_
        refine ua ?_
        refine u_nil ?_
        -- back
        refine ⟨j + 1, ⟨by omega, ?_⟩, by omega, ?_⟩
        · intro a ha hk h1
          by_cases h2 : a = j
          · subst h2; simpa using hc24
          · exact hin_j a ha hk (by omega)
        · refine Le.al ?_
          simp only [List.forall_mem_cons]
          exact ⟨rfl, rfl, cnt (by omega), by simp⟩
      ·
       refine WP.exit ?_
       refine hK17 _ ?_
       refine wr ?_
       refine ua ?_
       refine u_nil ?_
       refine WP.ret ?_
       refine ret_ok rfl ?_ (by omega) (fun t ht => (hk3 t (by omega)).trans ((hk2 t (by omega))))
       -- ret 4
       have e1 : xs = ys := List.ext_getElem (by omega) fun j h1 h2 => hin_i j h1 h2 (by omega)
       have e2 : ns = ms := List.ext_getElem (by omega) fun j h1 h2 => hin_j j h1 h2 (by omega)
       rw [q1, q2, q3, e1, e2, same_refl]
     ·
      simp
     ·
      refine Le.al ?_
      simp only [List.forall_mem_cons]
      exact ⟨rfl, rfl, rfl, by simp⟩
   ·
    simp
   ·
    refine Le.al ?_
    simp only [List.forall_mem_cons]
    exact ⟨rfl, rfl, rfl, by simp⟩
theorem s13 (v w : Val) : PSpec Try.prog 13 [.d (encV v), .d (encV w)] (.d (.bool (sameV v w))) := s13A _ v w (Nat.lt_succ_self _)

end Go.Proofs.Ytpkcbdhjnnnkbaa.Abs

set_option linter.unusedVariables false
set_option linter.unusedSimpArgs false
set_option maxRecDepth 10000
namespace Go.Proofs.Ytpkcbdhjnnnkbaa.Abs
open Go
theorem o_ia_mapG {P : Program} {Θ : Tab} {K : SV → (Nat → Option AO) → Nat → Prop} {sl : Nat → SV} {o : Nat → Option AO} {nk : Nat} {x ix : Operand} {t e : Nat} {α : Type} {i j : TI} {z : Nat} {xs : List α} {g : α → D} {k : IntKind} {m : Nat} (d0 : α) (hx : ev sl x = .d (.sl z (xs.map g))) (hy : ev sl ix = .d (.int k (m : Int))) (hi : Θ t = some i) (hk : i.k = .slice e) (hj : Θ e = some j) (hz : z = j.sz) (hlt : m < xs.length) (h : K (.el (g (xs.getD m d0))) o nk) : vOp P Θ (.indexAddr t x ix) ⟨sl, o, nk⟩ K := by
  have hg : xs.getD m d0 = xs[m]'hlt := by simp [hlt]
  rw [hg] at h
  exact o_ia_map hx hy hi hk hj hz hlt h
theorem begins_yes {a b : List Str} (hl : a.length ≤ b.length) (h : ∀ (j : Nat) (hj : j < a.length) (hk : j < b.length), a[j] = b[j]) : beginsV a b = true := by
  unfold beginsV
  rw [decide_eq_true_eq, List.prefix_iff_eq_take]
  refine List.ext_getElem (by simp; omega) fun j h1 h2 => ?_
  rw [List.getElem_take]
  exact h j h1 (by omega)
theorem begins_no {a b : List Str} {i : Nat} (h : i < a.length) (hb : b.length ≤ i ∨ ∃ hk : i < b.length, a[i] ≠ b[i]) : beginsV a b = false := by
  unfold beginsV
  rw [decide_eq_false_iff_not]
  intro hp
  have hl := hp.length_le
  rcases hb with hb | ⟨hk, hb⟩
  · omega
  · exact hb (hp.getElem h)

theorem fn23 : FnOk Try.prog 23 27 [4] (bodyOf Try.f23) := ⟨Try.f23, Try.func23, by kernel_rfl, by decide, by kernel_rfl, by kernel_rfl⟩
theorem s23 (a b : List Str) : PSpec Try.prog 23 [.d (.sl 1 (a.map .str)), .d (.sl 1 (b.map .str))] (.d (.bool (beginsV a b))) := by
 refine PSpec.bd fun hbd => ?_
 have hx : a.length ≤ 9223372036854775807 := by simpa using hbd.1.1
 refine PSpec.of fn23 (by simp) fun o nk => ?_
 refine wr ?_
 refine ua ?_
 refine u_nil ?_
 refine WP.seq fun K2 hK2 => ?_
 refine wr ?_
 refine ua ?_
 refine u_nil ?_
 refine WP.block ?_
 refine WP.loopL (ι := Nat) (fun i => ⟨al [(0, .d (.sl 1 (a.map .str))), (1, .d (.sl 1 (b.map .str))), (5, .d (.int .i64 i))], o, nk⟩) (fun i => i ≤ a.length ∧ i ≤ b.length ∧ ∀ (j : Nat) (hj : j < a.length) (hk : j < b.length), j < i → a[j] = b[j]) (fun i => a.length - i) (fun i hA => ?_) 0 ?_ ?_
 ·
  obtain ⟨hle_i, hin_i⟩ := hA
  refine WP.seq fun K4 hK4 => ?_
  refine wr ?_
  refine um ?_
  refine um ?_
  refine un th22 ?_
  refine ub ?_
  refine u_nil ?_
  refine wc (fun hc6 => ?_) (fun hc6 => ?_) <;> try simp only [Q0, Q1, Q2, Q3, Q4, Q5, Q6, Q7, Q8, ge_iff_le, gt_iff_lt] at hc6
  ·
   refine WP.skip ?_
   refine hK4 _ ?_
   refine WP.seq fun K7 hK7 => ?_
   refine WP.block ?_
   refine wd ?_
   refine dm ?_
   refine dm ?_
   refine dn th22 ?_
   refine db ?_
   refine dm ?_
   apply d_guard
   · exact GC.f _
   · intro hg
     exact pm
   apply d_guard
   · exact GC.f _
   · intro hg
     exact pm
   apply d_guard
   · exact GC.f _
   · intro hg; try simp only [hg, ct]; try simp only [hg, ct, Bt]
     have hg2 := hg; try simp only [Q0, Q1, Q2, Q3, Q4, Q5, Q6, Q9, Qa, Qb, Qc, Qd] at hg2
     first | refine o_ia_map rfl rfl th22 rfl th9 rfl (by omega) ⟨rfl, rfl, rfl⟩ | refine o_ia_vs rfl rfl th22 rfl th9 rfl (by omega) ⟨rfl, rfl, rfl⟩
   apply d_guard
   · exact GC.f _
   · intro hg; try simp only [hg, ct]; try simp only [hg, ct, Bt]
     exact pL th9
   apply d_guard
   · exact GC.f _
   · intro hg
     exact pm
   apply d_guard
   · exact GC.f _
   · intro hg
     exact pm
   apply d_guard
   · exact GC.f _
   · intro hg; try simp only [hg, ct]; try simp only [hg, ct, Bt]
     have hg2 := hg; try simp only [Q0, Q1, Q2, Q3, Q4, Q5, Q6, Q9, Qa, Qb, Qc, Qd] at hg2
     refine o_ia_mapG (xs := b) ([] : Str) rfl rfl th22 rfl th9 rfl (by omega) ⟨rfl, rfl, rfl⟩
   apply d_guard
   · exact GC.f _
   · intro hg; try simp only [hg, ct]; try simp only [hg, ct, Bt]
     exact pL th9
   apply d_guard
   · exact GC.f _
   · intro hg; try simp only [hg, ct]; try simp only [hg, ct, Bt]
     exact ps
   refine dO ?_
   refine d_nil ?_
   refine wc (fun hc9 => ?_) (fun hc9 => ?_) <;> try simp only [Q0, Q1, Q2, Q3, Q4, Q5, Q6, Q7, Q8, ge_iff_le, gt_iff_lt] at hc9
   ·
    refine wr ?_
    refine ua ?_
    refine u_nil ?_
    refine WP.ret ?_
    refine ret_ok rfl ?_ (by omega) (fun _ _ => rfl)
    -- ret 1
    rw [begins_no (by omega) ?_]
    by_cases hb : b.length ≤ i
    · exact .inl hb
    · have hk : i < b.length := by omega
      exact .inr ⟨hk, by simpa [hb, hk] using hc9⟩
   ·
    refine WP.skip ?_
    refine hK7 _ ?_
    refine WP.reg tabOk rfl ?_
    refine um ?_
    refine ub ?_
    refine ua ?_
    refine u_nil ?_
    -- back
    refine ⟨i + 1, ⟨by omega, ?_⟩, by omega, ?_⟩
    · have hq := Bool.or_eq_false_iff.1 hc9
      have hq1 : ¬ b.length ≤ i := by simpa using hq.1
      refine ⟨by omega, fun j hj hk h1 => ?_⟩
      by_cases h2 : j = i
      · subst h2; simpa [hk] using hq.2
      · exact hin_i.2 j hj hk (by omega)
    · refine Le.al ?_
      simp only [List.forall_mem_cons]
      exact ⟨rfl, rfl, cnt (by omega), by simp⟩
  ·
   refine WP.exit ?_
   refine hK2 _ ?_
   refine wr ?_
   refine ua ?_
   refine u_nil ?_
   refine WP.ret ?_
   refine ret_ok rfl ?_ (by omega) (fun _ _ => rfl)
   -- ret 2
   rw [begins_yes (by omega) fun j hj hk => hin_i.2 j hj hk (by omega)]
 ·
  simp
 ·
  refine Le.al ?_
  simp only [List.forall_mem_cons]
  exact ⟨rfl, rfl, rfl, by simp⟩

theorem fn77 : FnOk Try.prog 77 26 [4] (bodyOf Try.f77) := ⟨Try.f77, Try.func77, by kernel_rfl, by decide, by kernel_rfl, by kernel_rfl⟩
theorem s77 (a b : List Str) : PSpec Try.prog 77 [.d (.sl 1 (a.map .str)), .d (.sl 1 (b.map .str))] (.d (.bool (decide (a = b)))) := by
 refine PSpec.bd fun hbd => ?_
 have hx : a.length ≤ 9223372036854775807 := by simpa using hbd.1.1
 refine PSpec.of fn77 (by simp) fun o nk => ?_
 refine wr ?_
 refine ua ?_
 refine u_nil ?_
 refine WP.seq fun K2 hK2 => ?_
 refine wr ?_
 refine um ?_
 refine un th22 ?_
 refine um ?_
 refine un th22 ?_
 refine ub ?_
 refine u_nil ?_
 refine wc (fun hc4 => ?_) (fun hc4 => ?_) <;> try simp only [Q0, Q1, Q2, Q3, Q4, Q5, Q6, Q7, Q8, ge_iff_le, gt_iff_lt] at hc4
 ·
  refine wr ?_
  refine ua ?_
  refine u_nil ?_
  refine WP.ret ?_
  refine ret_ok rfl ?_ (by omega) (fun _ _ => rfl)
  -- ret 1
  refine congrArg D.bool (Eq.symm (decide_eq_false fun e => ?_))
  subst e
  simp at hc4
 ·
  have hl : a.length = b.length := by simp at hc4; omega
  refine WP.skip ?_
  refine hK2 _ ?_
  refine WP.seq fun K6 hK6 => ?_
  refine wr ?_
  refine um ?_
  refine un th22 ?_
  refine um ?_
  refine u_nil ?_
  refine WP.block ?_
  refine WP.loopL (ι := Nat) (fun i => ⟨al [(0, .d (.sl 1 (a.map .str))), (1, .d (.sl 1 (b.map .str))), (12, .d (.int .i64 (a.map D.str).length)), (13, .d (.int .i64 i))], o, nk⟩) (fun i => i ≤ a.length ∧ ∀ (j : Nat) (hj : j < a.length) (hk : j < b.length), j < i → a[j] = b[j]) (fun i => a.length - i) (fun i hA => ?_) 0 ?_ ?_
  ·
   obtain ⟨hle_i, hin_i⟩ := hA
   refine wr ?_
   refine ub ?_
   refine u_nil ?_
   refine WP.seq fun K9 hK9 => ?_
   refine wc (fun hc10 => ?_) (fun hc10 => ?_) <;> try simp only [Q0, Q1, Q2, Q3, Q4, Q5, Q6, Q7, Q8, ge_iff_le, gt_iff_lt] at hc10
   ·
    refine WP.skip ?_
    refine hK9 _ ?_
    refine WP.seq fun K11 hK11 => ?_
    refine WP.block ?_
    refine wr ?_
    refine um ?_
    refine ua ?_
    refine u_nil ?_
    refine wd ?_
    refine dm ?_
    refine dm ?_
    first | refine d_step (o_ia_map rfl rfl th22 rfl th9 rfl (by omega) ⟨rfl, rfl, rfl⟩) ?_ | refine d_step (o_ia_vs rfl rfl th22 rfl th9 rfl (by omega) ⟨rfl, rfl, rfl⟩) ?_
    refine dL th9 ?_
    refine dm ?_
    refine dm ?_
    first | refine d_step (o_ia_map rfl rfl th22 rfl th9 rfl (by omega) ⟨rfl, rfl, rfl⟩) ?_ | refine d_step (o_ia_vs rfl rfl th22 rfl th9 rfl (by omega) ⟨rfl, rfl, rfl⟩) ?_
    refine dL th9 ?_
    refine ds ?_
    refine d_nil ?_
    refine wc (fun hc14 => ?_) (fun hc14 => ?_) <;> try simp only [Q0, Q1, Q2, Q3, Q4, Q5, Q6, Q7, Q8, ge_iff_le, gt_iff_lt] at hc14
    ·
     refine wr ?_
     refine ua ?_
     refine u_nil ?_
     refine WP.ret ?_
     refine ret_ok rfl ?_ (by omega) (fun _ _ => rfl)
     -- ret 2
     refine congrArg D.bool (Eq.symm (decide_eq_false fun e => ?_))
     subst e
     simp at hc14
    ·
     refine WP.skip ?_
     refine hK11 _ ?_
     refine WP.reg tabOk rfl ?_
     refine ub ?_
     refine um ?_
     refine u_nil ?_
     -- back
     refine ⟨i + 1, ⟨by omega, ?_⟩, by omega, ?_⟩
     · intro j hj hk h1
       by_cases h2 : j = i
       · subst h2; simpa using hc14
       · exact hin_i j hj hk (by omega)
     · refine Le.al ?_
       simp only [List.forall_mem_cons]
       exact ⟨rfl, rfl, rfl, cnt (by omega), by simp⟩
   ·
    refine WP.exit ?_
    refine hK6 _ ?_
    refine wr ?_
    refine ua ?_
    refine u_nil ?_
    refine WP.ret ?_
    refine ret_ok rfl ?_ (by omega) (fun _ _ => rfl)
    -- ret 3
    refine congrArg D.bool (Eq.symm (decide_eq_true ?_))
    exact List.ext_getElem hl fun j h1 h2 => hin_i j h1 h2 (by omega)
  ·
   simp
  ·
   refine Le.al ?_
   simp only [List.forall_mem_cons]
   exact ⟨rfl, rfl, rfl, rfl, by simp⟩

theorem s77t (a b : List Str) (m : Nat) : PSpec Try.prog 77 [.d (.sl 1 (a.map .str)), .d (.sl 1 (((b.map .str).take m).drop 0))] (.d (.bool (decide (a = b.take m)))) := by
  have := s77 a (b.take m)
  rwa [List.map_take] at this
end Go.Proofs.Ytpkcbdhjnnnkbaa.Abs

set_option linter.unusedVariables false
set_option linter.unusedSimpArgs false
set_option maxRecDepth 10000
namespace Go.Proofs.Ytpkcbdhjnnnkbaa.Abs
open Go
def meetV (a b : List Str) : Bool := beginsV a b || beginsV b a

theorem fn88 : FnOk Try.prog 88 18 [4] (bodyOf Try.f88) := ⟨Try.f88, Try.func88, by kernel_rfl, by decide, by kernel_rfl, by kernel_rfl⟩
theorem s88 (a b : List Str) : PSpec Try.prog 88 [.d (.sl 1 (a.map .str)), .d (.sl 1 (b.map .str))] (.d (.bool (beginsV a b))) := by
 refine PSpec.of fn88 (by simp) fun o nk => ?_
 refine wr ?_
 refine ua ?_
 refine u_nil ?_
 refine wr ?_
 refine um ?_
 refine un th22 ?_
 refine um ?_
 refine un th22 ?_
 refine ub ?_
 refine um ?_
 apply gT
 · rfl
 · intro hg
   exact pm
 apply gT
 · rfl
 · intro hg
   exact pm
 apply gT
 · rfl
 · intro hg
   exact pm
 apply gT
 · rfl
 · intro hg; try simp only [hg, ct]; try simp only [hg, ct, Bt]
   exact pn th22
 apply gT
 · rfl
 · intro hg; try simp only [hg, ct]; try simp only [hg, ct, Bt]
   have hg2 := hg; try simp only [Q0, Q1, Q2, Q3, Q4, Q5, Q6, Q9, Qa, Qb, Qc, Qd] at hg2
   refine o_sl_sl (m := (a.map D.str).length) (p := 0) rfl th22 rfl th9 rfl (bnd_nat (by simp only [List.length_map]; omega)) rfl ⟨rfl, rfl, rfl⟩
 apply gT
 · rfl
 · intro hg; try simp only [hg, ct]; try simp only [hg, ct, Bt]
   refine o_pcall (s77t a b _) rfl ⟨rfl, rfl, rfl⟩
 refine uA ?_
 refine ua ?_
 refine u_nil ?_
 refine WP.ret ?_
 refine ret_ok rfl ?_ (by omega) (fun _ _ => rfl)
 -- ret 1
 refine congrArg D.bool ?_
 rw [Bool.eq_iff_iff]
 simp only [Bool.and_eq_true, decide_eq_true_eq, List.length_map, beginsV, List.prefix_iff_eq_take]
 constructor
 · rintro ⟨_, h⟩; exact h
 · intro h; refine ⟨?_, h⟩; have := congrArg List.length h; simp at this; omega

theorem fn56 : FnOk Try.prog 56 13 [4] (bodyOf Try.f56) := ⟨Try.f56, Try.func56, by kernel_rfl, by decide, by kernel_rfl, by kernel_rfl⟩
theorem s56 (a b : List Str) : PSpec Try.prog 56 [.d (.sl 1 (a.map .str)), .d (.sl 1 (b.map .str))] (.d (.bool (meetV a b))) := by
 refine PSpec.of fn56 (by simp) fun o nk => ?_
 refine wr ?_
 refine ua ?_
 refine u_nil ?_
 refine wr ?_
 refine um ?_
 refine um ?_
 refine u_step (o_pcall (s88 _ _) rfl ?_)
 refine um ?_
 apply gF
 · rfl
 · intro hg
   exact pm
 apply gF
 · rfl
 · intro hg
   exact pm
 apply gF
 · rfl
 · intro hg; try simp only [hg, ct]; try simp only [hg, ct, Bt]
   refine o_pcall (s88 _ _) rfl ⟨rfl, rfl, rfl⟩
 refine uO ?_
 refine ua ?_
 refine u_nil ?_
 refine WP.ret ?_
 refine ret_ok rfl ?_ (by omega) (fun _ _ => rfl)
 -- ret 1
 rfl

end Go.Proofs.Ytpkcbdhjnnnkbaa.Abs

set_option linter.unusedVariables false
set_option linter.unusedSimpArgs false
set_option maxRecDepth 10000
namespace Go.Proofs.Ytpkcbdhjnnnkbaa.Abs
open Go
/-- A change that may be. -/
def mayD (d : Dlt) : Bool := pathV d.path && (if d.kind = 1 then decide (checkV d.value = 0) && decide (d.n = 0) else if d.kind = 2 then noneV d.value && decide (d.n = 0) else if d.kind = 3 then noneV d.value && decide (0 ≤ d.n) && decide (d.n ≤ 999) else false)
def okD (d : Dlt) : Prop := rngV d.value ∧ szV d.value ≤ 1099511627776
def checkD (l : List Dlt) : Int := if 64 < l.length then 3 else if l.all mayD then 0 else 1
theorem none_le (v : Val) : SV.les [.d (.agg (valCells v)), .d (.agg [.int .i64 0, .int .i64 0, .str [], .nil, .nil])] [.d (encV v), .d (encV (.mk 0 0 [] [] []))] := by
  refine ⟨?_, ?_, trivial⟩
  · show D.le (.agg (valCells v)) (encV v)
    rw [encV_eq]; exact D.le_refl _
  · show D.le (.agg [.int .i64 0, .int .i64 0, .str [], .nil, .nil]) (encV (.mk 0 0 [] [] []))
    simp [D.le, D.les, encV, encVs]
theorem s13n (v : Val) : PSpec Try.prog 13 [.d (.agg (valCells v)), .d (.agg [.int .i64 0, .int .i64 0, .str [], .nil, .nil])] (.d (.bool (noneV v))) := by
  have := PSpec.le (s13 v (.mk 0 0 [] [] [])) (none_le v)
  rwa [none_same] at this

theorem fn31 : FnOk Try.prog 31 45 [2] (bodyOf Try.f31) := ⟨Try.f31, Try.func31, by kernel_rfl, by decide, by kernel_rfl, by kernel_rfl⟩
theorem s31 (d : Dlt) (hd : okD d) : PSpec Try.prog 31 [.d (encD d)] (.d (.bool (mayD d))) := by
 refine PSpec.of fn31 (by simp) fun o nk => ?_
 refine wr ?_
 refine u_step (g_box rfl fun o2 hb2 hk2 => ?_)
 refine ua ?_
 refine u_nil ?_
 refine WP.seq fun K3 hK3 => ?_
 refine wr ?_
 refine uf th46 th22 hb2 ?_
 refine ul th22 hb2 ?_
 refine u_step (o_pcall (s40 _) rfl ?_)
 refine uN ?_
 refine u_nil ?_
 refine wc (fun hc5 => ?_) (fun hc5 => ?_) <;> try simp only [Q0, Q1, Q2, Q3, Q4, Q5, Q6, Q7, Q8, ge_iff_le, gt_iff_lt] at hc5
 ·
  refine wr ?_
  refine ua ?_
  refine u_nil ?_
  refine WP.ret ?_
  refine ret_ok rfl ?_ (by omega) (fun t ht => (hk2 t (by omega)))
  -- ret 1
  clear hK3
  refine congrArg D.bool ?_
  simp only [mayD]
  grind
 ·
  refine WP.skip ?_
  refine hK3 _ ?_
  refine WP.seq fun K7 hK7 => ?_
  refine wr ?_
  refine uf th46 th3 hb2 ?_
  refine ul th3 hb2 ?_
  refine u_nil ?_
  refine WP.block ?_
  refine wr ?_
  refine ub ?_
  refine ua ?_
  refine u_nil ?_
  refine wc (fun hc10 => ?_) (fun hc10 => ?_) <;> try simp only [Q0, Q1, Q2, Q3, Q4, Q5, Q6, Q7, Q8, ge_iff_le, gt_iff_lt] at hc10
  ·
   refine wr ?_
   refine uf th46 th27 hb2 ?_
   refine ug th27 hb2 ?_
   refine u_step (o_pcall (pv (v := d.value) (s53 d.value hd.1 hd.2)) rfl ?_)
   refine ub ?_
   refine um ?_
   apply gT
   · rfl
   · intro hg
     exact pf th46 th3 hb2
   apply gT
   · rfl
   · intro hg; try simp only [hg, ct]; try simp only [hg, ct, Bt]
     exact pl th3 hb2
   apply gT
   · rfl
   · intro hg; try simp only [hg, ct]; try simp only [hg, ct, Bt]
     exact pb
   refine uA ?_
   refine ua ?_
   refine u_nil ?_
   refine WP.ret ?_
   refine ret_ok rfl ?_ (by omega) (fun t ht => (hk2 t (by omega)))
   -- ret 2
   clear hK3 hK7
   refine congrArg D.bool ?_
   simp only [mayD]
   grind
  ·
   refine wr ?_
   refine ub ?_
   refine ua ?_
   refine u_nil ?_
   refine wc (fun hc13 => ?_) (fun hc13 => ?_) <;> try simp only [Q0, Q1, Q2, Q3, Q4, Q5, Q6, Q7, Q8, ge_iff_le, gt_iff_lt] at hc13
   ·
    refine wr ?_
    refine uf th46 th27 hb2 ?_
    refine ug th27 hb2 ?_
    refine u_step (o_pcall (pv (v := d.value) (s54 d.value hd.2)) rfl ?_)
    refine um ?_
    apply gT
    · rfl
    · intro hg
      exact pf th46 th3 hb2
    apply gT
    · rfl
    · intro hg; try simp only [hg, ct]; try simp only [hg, ct, Bt]
      exact pl th3 hb2
    apply gT
    · rfl
    · intro hg; try simp only [hg, ct]; try simp only [hg, ct, Bt]
      exact pb
    refine uA ?_
    refine ua ?_
    refine u_nil ?_
    refine WP.ret ?_
    refine ret_ok rfl ?_ (by omega) (fun t ht => (hk2 t (by omega)))
    -- ret 3
    clear hK3 hK7
    refine congrArg D.bool ?_
    simp only [mayD]
    grind
   ·
    refine wr ?_
    refine ub ?_
    refine ua ?_
    refine u_nil ?_
    refine wc (fun hc16 => ?_) (fun hc16 => ?_) <;> try simp only [Q0, Q1, Q2, Q3, Q4, Q5, Q6, Q7, Q8, ge_iff_le, gt_iff_lt] at hc16
    ·
     refine wr ?_
     refine uf th46 th27 hb2 ?_
     refine ug th27 hb2 ?_
     refine u_step (o_pcall (pv (v := d.value) (s54 d.value hd.2)) rfl ?_)
     refine um ?_
     apply gT
     · rfl
     · intro hg
       exact pf th46 th3 hb2
     apply gT
     · rfl
     · intro hg; try simp only [hg, ct]; try simp only [hg, ct, Bt]
       exact pl th3 hb2
     apply gT
     · rfl
     · intro hg; try simp only [hg, ct]; try simp only [hg, ct, Bt]
       exact pb
     refine uA ?_
     refine um ?_
     apply gT
     · rfl
     · intro hg
       exact pf th46 th3 hb2
     apply gT
     · rfl
     · intro hg; try simp only [hg, ct]; try simp only [hg, ct, Bt]
       exact pl th3 hb2
     apply gT
     · rfl
     · intro hg; try simp only [hg, ct]; try simp only [hg, ct, Bt]
       exact pb
     refine uA ?_
     refine ua ?_
     refine u_nil ?_
     refine WP.ret ?_
     refine ret_ok rfl ?_ (by omega) (fun t ht => (hk2 t (by omega)))
     -- ret 4
     clear hK3 hK7
     refine congrArg D.bool ?_
     simp only [mayD]
     grind
    ·
     refine WP.skip ?_
     refine hK7 _ ?_
     refine wr ?_
     refine ua ?_
     refine u_nil ?_
     refine WP.ret ?_
     refine ret_ok rfl ?_ (by omega) (fun t ht => (hk2 t (by omega)))
     -- ret 5
     clear hK3 hK7
     refine congrArg D.bool ?_
     simp only [mayD]
     grind

end Go.Proofs.Ytpkcbdhjnnnkbaa.Abs

set_option linter.unusedVariables false
set_option linter.unusedSimpArgs false
set_option maxRecDepth 10000
namespace Go.Proofs.Ytpkcbdhjnnnkbaa.Abs
open Go

theorem fn52 : FnOk Try.prog 52 6 [2] (bodyOf Try.f52) := ⟨Try.f52, Try.func52, by kernel_rfl, by decide, by kernel_rfl, by kernel_rfl⟩
theorem s52 (d : Dlt) (hd : okD d) : PSpec Try.prog 52 [.d (encD d)] (.d (.bool (!mayD d))) := by
 refine PSpec.of fn52 (by simp) fun o nk => ?_
 refine wr ?_
 refine u_step (g_box rfl fun o2 hb2 hk2 => ?_)
 refine ua ?_
 refine u_nil ?_
 refine wr ?_
 refine ug th46 hb2 ?_
 refine u_step (o_pcall (s31 d hd) rfl ?_)
 refine uN ?_
 refine ua ?_
 refine u_nil ?_
 refine WP.ret ?_
 refine ret_ok rfl ?_ (by omega) (fun t ht => (hk2 t (by omega)))
 -- ret 1
 rfl

theorem fn30 : FnOk Try.prog 30 10 [2] (bodyOf Try.f30) := ⟨Try.f30, Try.func30, by kernel_rfl, by decide, by kernel_rfl, by kernel_rfl⟩
theorem s30 (l : List Dlt) (hl : l.length ≤ 64 → ∀ d ∈ l, okD d) : PSpec Try.prog 30 [.d (.sl 8 (l.map encD))] (.d (.int .i64 (checkD l))) := by
 refine PSpec.of fn30 (by simp) fun o nk => ?_
 refine wr ?_
 refine ua ?_
 refine u_nil ?_
 refine WP.seq fun K2 hK2 => ?_
 refine WP.block ?_
 refine wr ?_
 refine um ?_
 refine un th28 ?_
 refine ub ?_
 refine ua ?_
 refine u_nil ?_
 refine wc (fun hc4 => ?_) (fun hc4 => ?_) <;> try simp only [Q0, Q1, Q2, Q3, Q4, Q5, Q6, Q7, Q8, ge_iff_le, gt_iff_lt] at hc4
 ·
  refine wr ?_
  refine ua ?_
  refine u_nil ?_
  refine WP.ret ?_
  refine ret_ok rfl ?_ (by omega) (fun _ _ => rfl)
  -- ret 1
  clear hK2
  refine congrArg (D.int .i64) ?_
  try simp only [any_not] at hc4
  simp only [checkD]
  grind
 ·
  refine wr ?_
  refine um ?_
  refine u_step (o_scall (s51 l 52 [] [] (fun d => !mayD d) (fun x hx => s52 x (hl (by omega) x hx) _ _)) rfl ?_)
  refine ua ?_
  refine u_nil ?_
  refine wc (fun hc7 => ?_) (fun hc7 => ?_) <;> try simp only [Q0, Q1, Q2, Q3, Q4, Q5, Q6, Q7, Q8, ge_iff_le, gt_iff_lt] at hc7
  ·
   refine wr ?_
   refine ua ?_
   refine u_nil ?_
   refine WP.ret ?_
   refine ret_ok rfl ?_ (by omega) (fun _ _ => rfl)
   -- ret 2
   clear hK2
   refine congrArg (D.int .i64) ?_
   try simp only [any_not] at hc4 hc7
   simp only [checkD]
   grind
  ·
   refine WP.skip ?_
   refine hK2 _ ?_
   refine wr ?_
   refine ua ?_
   refine u_nil ?_
   refine WP.ret ?_
   refine ret_ok rfl ?_ (by omega) (fun _ _ => rfl)
   -- ret 3
   clear hK2
   refine congrArg (D.int .i64) ?_
   try simp only [any_not] at hc4 hc7
   simp only [checkD]
   grind

end Go.Proofs.Ytpkcbdhjnnnkbaa.Abs

set_option linter.unusedVariables false
set_option linter.unusedSimpArgs false
set_option maxRecDepth 10000
namespace Go.Proofs.Ytpkcbdhjnnnkbaa.Abs
open Go
def touchD (l : List Dlt) (p : List Str) : Bool := l.any fun d => meetV d.path p

theorem fn55 : FnOk Try.prog 55 8 [3] (bodyOf Try.f55) := ⟨Try.f55, Try.func55, by kernel_rfl, by decide, by kernel_rfl, by kernel_rfl⟩
theorem s55 (d : Dlt) (p : List Str) {o : Nat → Option AO} {nk k : Nat} (hkc : o k = some (.box [.d (.sl 1 (p.map .str))])) (hkl : k < nk) : Spec Try.prog 55 [.d (encD d), .loc k 0] o nk (fun r' o' nk' => r' = .d (.bool (meetV d.path p)) ∧ o' = o ∧ nk' = nk) := by
 refine Spec.pure (fun _ => trivial) rfl (Spec.of_body fn55 (by simp) ?_)
 refine wr ?_
 refine u_step (g_box rfl fun o2 hb2 hk2 => ?_)
 have hkc_2 := (hk2 _ (by omega)).trans hkc
 refine ua ?_
 refine u_nil ?_
 refine wr ?_
 refine uf th46 th22 hb2 ?_
 refine ul th22 hb2 ?_
 refine ul th22 hkc_2 ?_
 refine u_step (o_pcall (s56 _ _) rfl ?_)
 refine ua ?_
 refine u_nil ?_
 refine WP.ret ?_
 refine ret_ok rfl ?_ (by omega) (fun t ht => (hk2 t (by omega)))
 -- ret 1
 rfl

theorem fn32 : FnOk Try.prog 32 8 [4] (bodyOf Try.f32) := ⟨Try.f32, Try.func32, by kernel_rfl, by decide, by kernel_rfl, by kernel_rfl⟩
theorem s32 (l : List Dlt) (p : List Str) : PSpec Try.prog 32 [.d (.sl 8 (l.map encD)), .d (.sl 1 (p.map .str))] (.d (.bool (touchD l p))) := by
 refine PSpec.of fn32 (by simp) fun o nk => ?_
 refine wr ?_
 refine u_step (g_box1 rfl rfl fun o2 hb2 hk2 => ?_)
 refine ua ?_
 refine u_nil ?_
 refine wr ?_
 refine um ?_
 refine u_step (o_mf rfl rfl ?_)
 refine u_step (o_scall (s51 l 55 [] [.loc nk 0] (fun d => meetV d.path p) (fun x hx => s55 x p hb2 (by omega))) rfl ?_)
 refine ua ?_
 refine u_nil ?_
 refine WP.ret ?_
 refine ret_ok rfl ?_ (by omega) (fun t ht => (hk2 t (by omega)))
 -- ret 1
 rfl

end Go.Proofs.Ytpkcbdhjnnnkbaa.Abs

set_option linter.unusedVariables false
set_option linter.unusedSimpArgs false
set_option maxRecDepth 10000
namespace Go.Proofs.Ytpkcbdhjnnnkbaa.Abs
open Go
def freeD (l : List Dlt) : Bool := decide (l.Pairwise fun a b => meetV a.path b.path = false)
theorem meet_comm (a b : List Str) : meetV a b = meetV b a := by simp [meetV, Bool.or_comm]
theorem free_no {l : List Dlt} {i k : Nat} (hi : i < l.length) (hk : k < i) (h : meetV (l[k]'(by omega)).path (l[i]'hi).path = true) : freeD l = false := by
  unfold freeD
  rw [decide_eq_false_iff_not]
  intro hp
  have := (List.pairwise_iff_getElem.1 hp) k i (by omega) hi hk
  rw [h] at this; cases this
theorem free_yes {l : List Dlt} (h : ∀ (a b : Nat) (ha : a < l.length) (hb : b < l.length), a < b → meetV l[a].path l[b].path = false) : freeD l = true := by
  unfold freeD
  rw [decide_eq_true_eq]
  exact List.pairwise_iff_getElem.2 fun i j hi hj hij => h i j hi hj hij

theorem fn10 : FnOk Try.prog 10 40 [2] (bodyOf Try.f10) := ⟨Try.f10, Try.func10, by kernel_rfl, by decide, by kernel_rfl, by kernel_rfl⟩
theorem s10 (l : List Dlt) : PSpec Try.prog 10 [.d (.sl 8 (l.map encD))] (.d (.bool (freeD l))) := by
 refine PSpec.bd fun hbd => ?_
 have hx : l.length ≤ 9223372036854775807 := by simpa using hbd.1.1
 refine PSpec.of fn10 (by simp) fun o nk => ?_
 refine wr ?_
 refine ua ?_
 refine u_nil ?_
 refine WP.seq fun K2 hK2 => ?_
 refine wr ?_
 refine ua ?_
 refine u_nil ?_
 refine WP.block ?_
 refine WP.loopL (ι := Nat) (fun i => ⟨al [(0, .d (.sl 8 (l.map encD))), (3, .d (.int .i64 i))], o, nk⟩) (fun i => i ≤ l.length ∧ ∀ (a b : Nat) (ha : a < l.length) (hb : b < l.length), a < b → b < i → meetV l[a].path l[b].path = false) (fun i => l.length - i) (fun i hA => ?_) 0 ?_ ?_
 ·
  obtain ⟨hle_i, hin_i⟩ := hA
  refine WP.seq fun K4 hK4 => ?_
  refine wr ?_
  refine um ?_
  refine um ?_
  refine un th28 ?_
  refine ub ?_
  refine u_nil ?_
  refine wc (fun hc6 => ?_) (fun hc6 => ?_) <;> try simp only [Q0, Q1, Q2, Q3, Q4, Q5, Q6, Q7, Q8, ge_iff_le, gt_iff_lt] at hc6
  ·
   refine WP.skip ?_
   refine hK4 _ ?_
   refine WP.seq fun K7 hK7 => ?_
   refine WP.block ?_
   refine wr ?_
   refine ua ?_
   refine u_nil ?_
   refine WP.block ?_
   refine WP.loopL (ι := Nat) (fun j => ⟨al [(0, .d (.sl 8 (l.map encD))), (3, .d (.int .i64 i)), (4, .d (.int .i64 j))], o, nk⟩) (fun j => j ≤ i ∧ ∀ (a : Nat) (ha : a < l.length), a < j → meetV l[a].path l[i].path = false) (fun j => i - j) (fun j hA => ?_) 0 ?_ ?_
   ·
    obtain ⟨hle_j, hin_j⟩ := hA
    refine WP.seq fun K9 hK9 => ?_
    refine wr ?_
    refine um ?_
    refine um ?_
    refine ub ?_
    refine u_nil ?_
    refine wc (fun hc11 => ?_) (fun hc11 => ?_) <;> try simp only [Q0, Q1, Q2, Q3, Q4, Q5, Q6, Q7, Q8, ge_iff_le, gt_iff_lt] at hc11
    ·
     refine WP.skip ?_
     refine hK9 _ ?_
     refine WP.seq fun K12 hK12 => ?_
     refine WP.block ?_
     refine wd ?_
     refine dm ?_
     refine dm ?_
     first | refine d_step (o_ia_map rfl rfl th28 rfl th46 rfl (by omega) ⟨rfl, rfl, rfl⟩) ?_ | refine d_step (o_ia_vs rfl rfl th28 rfl th46 rfl (by omega) ⟨rfl, rfl, rfl⟩) ?_
     refine dF th46 th22 ?_
     refine dL th22 ?_
     refine dm ?_
     refine dm ?_
     first | refine d_step (o_ia_map rfl rfl th28 rfl th46 rfl (by omega) ⟨rfl, rfl, rfl⟩) ?_ | refine d_step (o_ia_vs rfl rfl th28 rfl th46 rfl (by omega) ⟨rfl, rfl, rfl⟩) ?_
     refine dF th46 th22 ?_
     refine dL th22 ?_
     refine d_step (o_pcall (s23 _ _) rfl ⟨rfl, rfl, rfl⟩) ?_
     refine dm ?_
     apply d_guard
     · exact GC.f _
     · intro hg
       exact pm
     apply d_guard
     · exact GC.f _
     · intro hg
       exact pm
     apply d_guard
     · exact GC.f _
     · intro hg; try simp only [hg, ct]; try simp only [hg, ct, Bt]
       have hg2 := hg; try simp only [Q0, Q1, Q2, Q3, Q4, Q5, Q6, Q9, Qa, Qb, Qc, Qd] at hg2
       first | refine o_ia_map rfl rfl th28 rfl th46 rfl (by omega) ⟨rfl, rfl, rfl⟩ | refine o_ia_vs rfl rfl th28 rfl th46 rfl (by omega) ⟨rfl, rfl, rfl⟩
     apply d_guard
     · exact GC.f _
     · intro hg; try simp only [hg, ct]; try simp only [hg, ct, Bt]
       exact pF th46 th22
     apply d_guard
     · exact GC.f _
     · intro hg; try simp only [hg, ct]; try simp only [hg, ct, Bt]
       exact pL th22
     apply d_guard
     · exact GC.f _
     · intro hg
       exact pm
     apply d_guard
     · exact GC.f _
     · intro hg
       exact pm
     apply d_guard
     · exact GC.f _
     · intro hg; try simp only [hg, ct]; try simp only [hg, ct, Bt]
       have hg2 := hg; try simp only [Q0, Q1, Q2, Q3, Q4, Q5, Q6, Q9, Qa, Qb, Qc, Qd] at hg2
       first | refine o_ia_map rfl rfl th28 rfl th46 rfl (by omega) ⟨rfl, rfl, rfl⟩ | refine o_ia_vs rfl rfl th28 rfl th46 rfl (by omega) ⟨rfl, rfl, rfl⟩
     apply d_guard
     · exact GC.f _
     · intro hg; try simp only [hg, ct]; try simp only [hg, ct, Bt]
       exact pF th46 th22
     apply d_guard
     · exact GC.f _
     · intro hg; try simp only [hg, ct]; try simp only [hg, ct, Bt]
       exact pL th22
     apply d_guard
     · exact GC.f _
     · intro hg; try simp only [hg, ct]; try simp only [hg, ct, Bt]
       refine o_pcall (s23 _ _) rfl ⟨rfl, rfl, rfl⟩
     refine dO ?_
     refine d_nil ?_
     refine wc (fun hc14 => ?_) (fun hc14 => ?_) <;> try simp only [Q0, Q1, Q2, Q3, Q4, Q5, Q6, Q7, Q8, ge_iff_le, gt_iff_lt] at hc14
     ·
      refine wr ?_
      refine ua ?_
      refine u_nil ?_
      refine WP.ret ?_
      refine ret_ok rfl ?_ (by omega) (fun _ _ => rfl)
      -- ret 1
      rw [free_no (i := i) (k := j) (by omega) (by omega) (by rw [meet_comm]; exact hc14)]
     ·
      refine WP.skip ?_
      refine hK12 _ ?_
      refine WP.reg tabOk rfl ?_
      refine um ?_
      refine ub ?_
      refine ua ?_
      refine u_nil ?_
      -- back
      refine ⟨j + 1, ⟨by omega, ?_⟩, by omega, ?_⟩
      · intro a ha h1
        by_cases haj : a = j
        · subst haj; rw [meet_comm]; exact hc14
        · exact hin_j a ha (by omega)
      · refine Le.al ?_
        simp only [List.forall_mem_cons]
        exact ⟨rfl, rfl, cnt (by omega), by simp⟩
    ·
     refine WP.exit ?_
     refine hK7 _ ?_
     refine WP.reg tabOk rfl ?_
     refine um ?_
     refine ub ?_
     refine ua ?_
     refine u_nil ?_
     -- back
     refine ⟨i + 1, ⟨by omega, ?_⟩, by omega, ?_⟩
     · intro a b ha hb h1 h2
       by_cases hbi : b = i
       · subst hbi; exact hin_j a ha (by omega)
       · exact hin_i a b ha hb h1 (by omega)
     · refine Le.al ?_
       simp only [List.forall_mem_cons]
       exact ⟨rfl, cnt (by omega), by simp⟩
   ·
    simp
   ·
    refine Le.al ?_
    simp only [List.forall_mem_cons]
    exact ⟨rfl, rfl, rfl, by simp⟩
  ·
   refine WP.exit ?_
   refine hK2 _ ?_
   refine wr ?_
   refine ua ?_
   refine u_nil ?_
   refine WP.ret ?_
   refine ret_ok rfl ?_ (by omega) (fun _ _ => rfl)
   -- ret 2
   rw [free_yes fun a b ha hb h1 => hin_i a b ha hb h1 (by omega)]
 ·
  simp
 ·
  refine Le.al ?_
  simp only [List.forall_mem_cons]
  exact ⟨rfl, rfl, by simp⟩

end Go.Proofs.Ytpkcbdhjnnnkbaa.Abs

set_option linter.unusedVariables false
set_option linter.unusedSimpArgs false
set_option maxRecDepth 10000
namespace Go.Proofs.Ytpkcbdhjnnnkbaa.Abs
open Go
theorem s32t (l : List Dlt) (p : List Str) (m : Nat) : PSpec Try.prog 32 [.d (.sl 8 (((l.map encD).take m).drop 0)), .d (.sl 1 (p.map .str))] (.d (.bool (touchD (l.take m) p))) := by
  have := s32 (l.take m) p
  rwa [List.map_take] at this
theorem touch_yes {l : List Dlt} {i : Nat} {p : List Str} (h : touchD (l.take i) p = true) : ∃ (k : Nat) (hk : k < l.length), k < i ∧ meetV l[k].path p = true := by
  obtain ⟨d, hd, h1⟩ := List.any_eq_true.1 h
  obtain ⟨k, hk, he⟩ := List.mem_iff_getElem.1 hd
  rw [List.getElem_take] at he
  have hki : k < i ∧ k < l.length := by simp at hk; omega
  exact ⟨k, hki.2, hki.1, by rw [he]; exact h1⟩
theorem touch_no {l : List Dlt} {i : Nat} {p : List Str} (h : touchD (l.take i) p = false) {k : Nat} (hk : k < l.length) (hki : k < i) : meetV l[k].path p = false := by
  have h1 := List.any_eq_false.1 h (l[k]) (List.mem_iff_getElem.2 ⟨k, by simp; omega, by rw [List.getElem_take]⟩)
  simpa using h1

theorem fn29 : FnOk Try.prog 29 19 [2] (bodyOf Try.f29) := ⟨Try.f29, Try.func29, by kernel_rfl, by decide, by kernel_rfl, by kernel_rfl⟩
theorem s29 (l : List Dlt) : PSpec Try.prog 29 [.d (.sl 8 (l.map encD))] (.d (.bool (freeD l))) := by
 refine PSpec.bd fun hbd => ?_
 have hx : l.length ≤ 9223372036854775807 := by simpa using hbd.1.1
 refine PSpec.of fn29 (by simp) fun o nk => ?_
 refine wr ?_
 refine ua ?_
 refine u_nil ?_
 refine WP.seq fun K2 hK2 => ?_
 refine wr ?_
 refine um ?_
 refine un th28 ?_
 refine um ?_
 refine u_nil ?_
 refine WP.block ?_
 refine WP.loopL (ι := Nat × (Nat → Option AO) × Nat) (fun ⟨i, o2, nk2⟩ => ⟨al [(0, .d (.sl 8 (l.map encD))), (5, .d (.sl 8 (l.map encD))), (6, .d (.int .i64 (l.map encD).length)), (7, .d (.int .i64 i))], o2, nk2⟩) (fun ⟨i, o2, nk2⟩ => i ≤ l.length ∧ nk ≤ nk2 ∧ (∀ t, t < nk → o2 t = o t) ∧ ∀ (a b : Nat) (ha : a < l.length) (hb : b < l.length), a < b → b < i → meetV (l[a]'ha).path (l[b]'hb).path = false) (fun ⟨i, o2, nk2⟩ => l.length - i) (fun ⟨i, o2, nk2⟩ hA => ?_) ⟨0, o, nk⟩ ?_ ?_
 ·
  obtain ⟨hle, hnk, hfr, hin⟩ := hA
  refine wr ?_
  refine ub ?_
  refine u_nil ?_
  refine WP.seq fun K5 hK5 => ?_
  refine wc (fun hc6 => ?_) (fun hc6 => ?_) <;> try simp only [Q0, Q1, Q2, Q3, Q4, Q5, Q6, Q7, Q8, ge_iff_le, gt_iff_lt] at hc6
  ·
   refine WP.skip ?_
   refine hK5 _ ?_
   refine WP.seq fun K7 hK7 => ?_
   refine WP.block ?_
   refine wr ?_
   refine um ?_
   first | refine u_step (o_ia_map rfl rfl th28 rfl th46 rfl (by omega) ?_) | refine u_step (o_ia_vs rfl rfl th28 rfl th46 rfl (by omega) ?_)
   refine uL th46 ?_
   refine u_step (g_alloc th46 rfl fun o9 hb9 hk9 => ?_)
   refine ua ?_
   refine u_step0 (g_sta rfl rfl th46 rfl hb9 (by first | (simp; done) | (simp [D.leaves, D.width, valCells]; done) | decide) fun o10 hb10 hk10 => ?_)
   refine u_nil ?_
   refine wd ?_
   refine dm ?_
   refine dm ?_
   refine d_step (o_sl_sl (m := i) (p := 0) rfl th28 rfl th46 rfl (bnd_nat (by simp only [List.length_map]; omega)) rfl ⟨rfl, rfl, rfl⟩) ?_
   refine df th46 th22 hb10 ?_
   refine dl th22 hb10 ?_
   refine d_step (o_pcall (s32t l l[i].path i) rfl ⟨rfl, rfl, rfl⟩) ?_
   refine d_nil ?_
   refine wc (fun hc12 => ?_) (fun hc12 => ?_) <;> try simp only [Q0, Q1, Q2, Q3, Q4, Q5, Q6, Q7, Q8, ge_iff_le, gt_iff_lt] at hc12
   ·
    refine wr ?_
    refine ua ?_
    refine u_nil ?_
    refine WP.ret ?_
    refine ret_ok rfl ?_ (by omega) (fun t ht => (hk10 t (by omega)).trans ((hk9 t (by omega)).trans ((hfr t (by omega)))))
    -- ret 1
    obtain ⟨k, hk, hki, hm⟩ := touch_yes hc12
    rw [free_no (i := i) (k := k) (by omega) hki hm]
   ·
    refine WP.skip ?_
    refine hK7 _ ?_
    refine WP.reg tabOk rfl ?_
    refine ub ?_
    refine um ?_
    refine u_nil ?_
    -- back
    refine ⟨⟨i + 1, o10, (nk2 + 1)⟩, ⟨by omega, by omega, (fun t ht => (hk10 t (by omega)).trans ((hk9 t (by omega)).trans ((hfr t (by omega))))), ?_⟩, by simp only; omega, ?_⟩
    · intro a b ha hb h1 h2
      by_cases hbi : b = i
      · subst hbi; exact touch_no hc12 ha h1
      · exact hin a b ha hb h1 (by omega)
    · refine Le.al ?_
      simp only [List.forall_mem_cons]
      exact ⟨rfl, rfl, rfl, cnt (by omega), by simp⟩
  ·
   refine WP.exit ?_
   refine hK2 _ ?_
   refine wr ?_
   refine ua ?_
   refine u_nil ?_
   refine WP.ret ?_
   refine ret_ok rfl ?_ (by omega) (fun t ht => (hfr t (by omega)))
   -- ret 2
   rw [free_yes fun a b ha hb h1 => hin a b ha hb h1 (by omega)]
 ·
  refine ⟨by simp, by omega, (fun _ _ => rfl), by simp⟩
 ·
  refine Le.al ?_
  simp only [List.forall_mem_cons]
  exact ⟨rfl, rfl, rfl, rfl, by simp⟩

end Go.Proofs.Ytpkcbdhjnnnkbaa.Abs

set_option linter.unusedVariables false
set_option linter.unusedSimpArgs false
set_option maxRecDepth 10000
namespace Go.Proofs.Ytpkcbdhjnnnkbaa.Abs
open Go
def cmpI (a b : Int) : Int := if a < b then -1 else if b < a then 1 else 0
def orI : List Int → Int
  | [] => 0
  | x :: r => if x = 0 then orI r else x
theorem orI_at : ∀ {l : List Int} {i : Nat} (h : i < l.length) (_ : ∀ x ∈ l.take i, x = 0) (_ : l[i]'h ≠ 0), orI l = l[i]'h
  | x :: l, 0, _, _, hn => by simp only [orI, List.getElem_cons_zero] at *; rw [if_neg hn]
  | x :: l, i + 1, h, hz, hn => by
    have h0 : x = 0 := hz x (by simp)
    simp only [orI, if_pos h0, List.getElem_cons_succ]
    exact orI_at (by simpa using h) (fun y hy => hz y (by simp [hy])) (by simpa using hn)
theorem orI_none : ∀ {l : List Int}, (∀ x ∈ l, x = 0) → orI l = 0
  | [], _ => rfl
  | x :: l, h => by
    simp only [orI, if_pos (h x (by simp))]
    exact orI_none fun y hy => h y (by simp [hy])

theorem fn143 : FnOk Try.prog 143 6 [2] (bodyOf Try.f143) := ⟨Try.f143, Try.func143, by kernel_rfl, by decide, by kernel_rfl, by kernel_rfl⟩
theorem s143 (x : Int) : PSpec Try.prog 143 [.d (.int .i64 x)] (.d (.bool false)) := by
 refine PSpec.of fn143 (by simp) fun o nk => ?_
 refine wr ?_
 refine ua ?_
 refine u_nil ?_
 refine wr ?_
 refine um ?_
 refine um ?_
 refine ub ?_
 refine ua ?_
 refine u_nil ?_
 refine WP.ret ?_
 refine ret_ok rfl ?_ (by omega) (fun _ _ => rfl)
 -- ret 1
 simp

theorem fn139 : FnOk Try.prog 139 20 [4] (bodyOf Try.f139) := ⟨Try.f139, Try.func139, by kernel_rfl, by decide, by kernel_rfl, by kernel_rfl⟩
theorem s139 (a b : Int) : PSpec Try.prog 139 [.d (.int .i64 a), .d (.int .i64 b)] (.d (.int .i64 (cmpI a b))) := by
 refine PSpec.of fn139 (by simp) fun o nk => ?_
 refine wr ?_
 refine ua ?_
 refine u_nil ?_
 refine wr ?_
 refine um ?_
 refine u_step (o_pcall (s143 _) rfl ?_)
 refine ua ?_
 refine u_nil ?_
 refine wr ?_
 refine um ?_
 refine u_step (o_pcall (s143 _) rfl ?_)
 refine ua ?_
 refine u_nil ?_
 refine WP.seq fun K4 hK4 => ?_
 refine wr ?_
 refine um ?_
 refine u_nil ?_
 refine wc (fun hc6 => ?_) (fun hc6 => ?_) <;> try simp only [Q0, Q1, Q2, Q3, Q4, Q5, Q6, Q7, Q8, ge_iff_le, gt_iff_lt] at hc6
 ·
  cases hc6
 ·
  refine WP.skip ?_
  refine hK4 _ ?_
  refine WP.seq fun K7 hK7 => ?_
  refine wr ?_
  refine um ?_
  refine u_nil ?_
  refine wc (fun hc9 => ?_) (fun hc9 => ?_) <;> try simp only [Q0, Q1, Q2, Q3, Q4, Q5, Q6, Q7, Q8, ge_iff_le, gt_iff_lt] at hc9
  ·
   cases hc9
  ·
   refine WP.skip ?_
   refine hK7 _ ?_
   refine WP.seq fun K10 hK10 => ?_
   refine wr ?_
   refine um ?_
   refine um ?_
   refine ub ?_
   refine u_nil ?_
   refine wc (fun hc12 => ?_) (fun hc12 => ?_) <;> try simp only [Q0, Q1, Q2, Q3, Q4, Q5, Q6, Q7, Q8, ge_iff_le, gt_iff_lt] at hc12
   ·
    refine wr ?_
    refine ua ?_
    refine u_nil ?_
    refine WP.ret ?_
    refine ret_ok rfl ?_ (by omega) (fun _ _ => rfl)
    -- ret 1
    refine congrArg (D.int .i64) ?_
    simp only [cmpI]
    clear hK4 hK7 hK10
    grind
   ·
    refine WP.skip ?_
    refine hK10 _ ?_
    refine WP.seq fun K14 hK14 => ?_
    refine wr ?_
    refine um ?_
    refine um ?_
    refine ub ?_
    refine u_nil ?_
    refine wc (fun hc16 => ?_) (fun hc16 => ?_) <;> try simp only [Q0, Q1, Q2, Q3, Q4, Q5, Q6, Q7, Q8, ge_iff_le, gt_iff_lt] at hc16
    ·
     refine wr ?_
     refine ua ?_
     refine u_nil ?_
     refine WP.ret ?_
     refine ret_ok rfl ?_ (by omega) (fun _ _ => rfl)
     -- ret 2
     refine congrArg (D.int .i64) ?_
     simp only [cmpI]
     clear hK4 hK7 hK10 hK14
     grind
    ·
     refine WP.skip ?_
     refine hK14 _ ?_
     refine wr ?_
     refine ua ?_
     refine u_nil ?_
     refine WP.ret ?_
     refine ret_ok rfl ?_ (by omega) (fun _ _ => rfl)
     -- ret 3
     refine congrArg (D.int .i64) ?_
     simp only [cmpI]
     clear hK4 hK7 hK10 hK14
     grind

theorem fn138 : FnOk Try.prog 138 18 [2] (bodyOf Try.f138) := ⟨Try.f138, Try.func138, by kernel_rfl, by decide, by kernel_rfl, by kernel_rfl⟩
theorem s138 (l : List Int) : PSpec Try.prog 138 [.d (.sl 1 (l.map (D.int .i64)))] (.d (.int .i64 (orI l))) := by
 refine PSpec.bd fun hbd => ?_
 have hx : l.length ≤ 9223372036854775807 := by simpa using hbd.1.1
 refine PSpec.of fn138 (by simp) fun o nk => ?_
 refine wr ?_
 refine ua ?_
 refine u_nil ?_
 refine wr ?_
 refine ua ?_
 refine u_nil ?_
 refine WP.seq fun K3 hK3 => ?_
 refine wr ?_
 refine um ?_
 refine un th64 ?_
 refine um ?_
 refine u_nil ?_
 refine WP.block ?_
 refine WP.loopL (ι := Nat) (fun i => ⟨al [(3, .d (.int .i64 0)), (6, .d (.sl 1 (l.map (D.int .i64)))), (7, .d (.int .i64 (l.map (D.int .i64)).length)), (8, .d (.int .i64 i))], o, nk⟩) (fun i => i ≤ l.length ∧ ∀ x ∈ l.take i, x = 0) (fun i => l.length - i) (fun i hA => ?_) 0 ?_ ?_
 ·
  obtain ⟨hle_i, hin_i⟩ := hA
  refine wr ?_
  refine ub ?_
  refine u_nil ?_
  refine WP.seq fun K6 hK6 => ?_
  refine wc (fun hc7 => ?_) (fun hc7 => ?_) <;> try simp only [Q0, Q1, Q2, Q3, Q4, Q5, Q6, Q7, Q8, ge_iff_le, gt_iff_lt] at hc7
  ·
   refine WP.skip ?_
   refine hK6 _ ?_
   refine WP.seq fun K8 hK8 => ?_
   refine WP.block ?_
   refine wr ?_
   first | refine u_step (o_ia_map rfl rfl th64 rfl th3 rfl (by omega) ?_) | refine u_step (o_ia_vs rfl rfl th64 rfl th3 rfl (by omega) ?_)
   refine uL th3 ?_
   refine ua ?_
   refine u_nil ?_
   refine wr ?_
   refine um ?_
   refine um ?_
   refine ub ?_
   refine u_nil ?_
   refine wc (fun hc11 => ?_) (fun hc11 => ?_) <;> try simp only [Q0, Q1, Q2, Q3, Q4, Q5, Q6, Q7, Q8, ge_iff_le, gt_iff_lt] at hc11
   ·
    refine wr ?_
    refine um ?_
    refine ua ?_
    refine u_nil ?_
    refine WP.ret ?_
    refine ret_ok rfl ?_ (by omega) (fun _ _ => rfl)
    -- ret 1
    rw [orI_at (by omega) hin_i (by simpa using hc11)]
   ·
    refine WP.skip ?_
    refine hK8 _ ?_
    refine WP.reg tabOk rfl ?_
    refine ub ?_
    refine um ?_
    refine u_nil ?_
    -- back
    refine ⟨i + 1, ⟨by omega, ?_⟩, by omega, ?_⟩
    · rw [List.take_succ_eq_append_getElem (by omega)]
      intro x hx
      rcases List.mem_append.1 hx with h | h
      · exact hin_i x h
      · simp only [List.mem_singleton] at h; subst h; simpa using hc11
    · refine Le.al ?_
      simp only [List.forall_mem_cons]
      exact ⟨rfl, rfl, rfl, cnt (by omega), by simp⟩
  ·
   refine WP.exit ?_
   refine hK3 _ ?_
   refine wr ?_
   refine um ?_
   refine ua ?_
   refine u_nil ?_
   refine WP.ret ?_
   refine ret_ok rfl ?_ (by omega) (fun _ _ => rfl)
   -- ret 2
   rw [orI_none fun x hx => hin_i x (by rwa [List.take_of_length_le (by omega)])]
 ·
  simp
 ·
  refine Le.al ?_
  simp only [List.forall_mem_cons]
  exact ⟨rfl, rfl, rfl, rfl, by simp⟩

end Go.Proofs.Ytpkcbdhjnnnkbaa.Abs

set_option linter.unusedVariables false
set_option linter.unusedSimpArgs false
set_option maxRecDepth 10000
namespace Go.Proofs.Ytpkcbdhjnnnkbaa.Abs
open Go
/-- The place of a text among texts. -/
def idxS (ns : List Str) (s : Str) : Int := firstI (fun x => decide (s = x)) ns

theorem fn98 : FnOk Try.prog 98 19 [4] (bodyOf Try.f98) := ⟨Try.f98, Try.func98, by kernel_rfl, by decide, by kernel_rfl, by kernel_rfl⟩
theorem s98 (ns : List Str) (s : Str) : PSpec Try.prog 98 [.d (.sl 1 (ns.map .str)), .d (.str s)] (.d (.int .i64 (idxS ns s))) := by
 refine PSpec.bd fun hbd => ?_
 have hx : ns.length ≤ 9223372036854775807 := by simpa using hbd.1.1
 refine PSpec.of fn98 (by simp) fun o nk => ?_
 refine wr ?_
 refine ua ?_
 refine u_nil ?_
 refine WP.seq fun K2 hK2 => ?_
 refine wr ?_
 refine um ?_
 refine un th22 ?_
 refine um ?_
 refine u_nil ?_
 refine WP.block ?_
 refine WP.loopL (ι := Nat) (fun i => ⟨al [(0, .d (.sl 1 (ns.map .str))), (1, .d (.str s)), (7, .d (.int .i64 (ns.map D.str).length)), (8, .d (.int .i64 i))], o, nk⟩) (fun i => i ≤ ns.length ∧ ∀ (j : Nat) (hj : j < ns.length), j < i → decide (s = ns[j]) = false) (fun i => ns.length - i) (fun i hA => ?_) 0 ?_ ?_
 ·
  obtain ⟨hle_i, hin_i⟩ := hA
  refine wr ?_
  refine ub ?_
  refine u_nil ?_
  refine WP.seq fun K5 hK5 => ?_
  refine wc (fun hc6 => ?_) (fun hc6 => ?_) <;> try simp only [Q0, Q1, Q2, Q3, Q4, Q5, Q6, Q7, Q8, ge_iff_le, gt_iff_lt] at hc6
  ·
   refine WP.skip ?_
   refine hK5 _ ?_
   refine WP.seq fun K7 hK7 => ?_
   refine WP.block ?_
   refine wr ?_
   refine um ?_
   refine ua ?_
   refine u_nil ?_
   refine wr ?_
   refine um ?_
   refine um ?_
   refine um ?_
   first | refine u_step (o_ia_map rfl rfl th22 rfl th9 rfl (by omega) ?_) | refine u_step (o_ia_vs rfl rfl th22 rfl th9 rfl (by omega) ?_)
   refine uL th9 ?_
   refine us ?_
   refine u_nil ?_
   refine wc (fun hc10 => ?_) (fun hc10 => ?_) <;> try simp only [Q0, Q1, Q2, Q3, Q4, Q5, Q6, Q7, Q8, ge_iff_le, gt_iff_lt] at hc10
   ·
    refine wr ?_
    refine um ?_
    refine ua ?_
    refine u_nil ?_
    refine WP.ret ?_
    refine ret_ok rfl ?_ (by omega) (fun _ _ => rfl)
    -- ret 1
    rw [idxS, firstI_at (p := fun x => decide (s = x)) (xs := ns) (i := i) (by omega) (decide_eq_true hc10) hin_i]
   ·
    refine WP.skip ?_
    refine hK7 _ ?_
    refine WP.reg tabOk rfl ?_
    refine ub ?_
    refine um ?_
    refine u_nil ?_
    -- back
    refine ⟨i + 1, ⟨by omega, ?_⟩, by omega, ?_⟩
    · intro j hj h1
      by_cases h2 : j = i
      · subst h2; exact decide_eq_false hc10
      · exact hin_i j hj (by omega)
    · refine Le.al ?_
      simp only [List.forall_mem_cons]
      exact ⟨rfl, rfl, rfl, cnt (by omega), by simp⟩
  ·
   refine WP.exit ?_
   refine hK2 _ ?_
   refine wr ?_
   refine ua ?_
   refine u_nil ?_
   refine WP.ret ?_
   refine ret_ok rfl ?_ (by omega) (fun _ _ => rfl)
   -- ret 2
   rw [idxS, firstI_none (p := fun x => decide (s = x)) (xs := ns) fun j hj => hin_i j hj (by omega)]
 ·
  simp
 ·
  refine Le.al ?_
  simp only [List.forall_mem_cons]
  exact ⟨rfl, rfl, rfl, rfl, by simp⟩

theorem fn68 : FnOk Try.prog 68 18 [4] (bodyOf Try.f68) := ⟨Try.f68, Try.func68, by kernel_rfl, by decide, by kernel_rfl, by kernel_rfl⟩
theorem s68 (v : Val) (p : List Str) : PSpec Try.prog 68 [.d (encV v), .d (.sl 1 (p.map .str))] (.d (.int .i64 (if v.kind ≠ 7 ∨ mayV v = false then 20 else if pathV p then 0 else 40))) := by
 obtain ⟨kd, it, tx, xs, ns⟩ := v
 refine PSpec.of fn68 (by simp) fun o nk => ?_
 refine wr ?_
 refine u_step (g_box rfl fun o2 hb2 hk2 => ?_)
 refine ua ?_
 refine u_nil ?_
 refine WP.seq fun K3 hK3 => ?_
 refine WP.block ?_
 refine wr ?_
 refine uf th27 th3 hb2 ?_
 refine ul th3 hb2 ?_
 refine ub ?_
 refine um ?_
 apply gF
 · rfl
 · intro hg
   exact pg th27 hb2
 apply gF
 · rfl
 · intro hg; try simp only [hg, ct]; try simp only [hg, ct, Bt]
   refine o_pcall (s34 (.mk kd it tx xs ns)) rfl ⟨rfl, rfl, rfl⟩
 apply gF
 · rfl
 · intro hg; try simp only [hg, ct]; try simp only [hg, ct, Bt]
   exact pN
 refine uO ?_
 refine ua ?_
 refine u_nil ?_
 refine wc (fun hc5 => ?_) (fun hc5 => ?_) <;> try simp only [Q0, Q1, Q2, Q3, Q4, Q5, Q6, Q7, Q8, ge_iff_le, gt_iff_lt] at hc5
 ·
  refine wr ?_
  refine ua ?_
  refine u_nil ?_
  refine WP.ret ?_
  refine ret_ok rfl ?_ (by omega) (fun t ht => (hk2 t (by omega)))
  -- ret 1
  clear hK3
  refine congrArg (D.int .i64) ?_
  simp only [Val.kind]
  grind
 ·
  refine wr ?_
  refine um ?_
  refine u_step (o_pcall (s40 _) rfl ?_)
  refine uN ?_
  refine ua ?_
  refine u_nil ?_
  refine wc (fun hc8 => ?_) (fun hc8 => ?_) <;> try simp only [Q0, Q1, Q2, Q3, Q4, Q5, Q6, Q7, Q8, ge_iff_le, gt_iff_lt] at hc8
  ·
   refine wr ?_
   refine ua ?_
   refine u_nil ?_
   refine WP.ret ?_
   refine ret_ok rfl ?_ (by omega) (fun t ht => (hk2 t (by omega)))
   -- ret 2
   clear hK3
   refine congrArg (D.int .i64) ?_
   simp only [Val.kind]
   grind
  ·
   refine WP.skip ?_
   refine hK3 _ ?_
   refine wr ?_
   refine ua ?_
   refine u_nil ?_
   refine WP.ret ?_
   refine ret_ok rfl ?_ (by omega) (fun t ht => (hk2 t (by omega)))
   -- ret 3
   clear hK3
   refine congrArg (D.int .i64) ?_
   simp only [Val.kind]
   grind

end Go.Proofs.Ytpkcbdhjnnnkbaa.Abs

set_option linter.unusedVariables false
set_option linter.unusedSimpArgs false
set_option maxRecDepth 10000
namespace Go.Proofs.Ytpkcbdhjnnnkbaa.Abs
open Go
/-- Which parts an entry has, by its kind. -/
def fieldsV (k : Int) : Int := if k = 1 then 0 else if k = 7 then 3 else if k = 2 then 13 else if k = 4 then 5 else if k = 3 then 21 else if k = 5 ∨ k = 6 then 1 else -1

theorem fn64 : FnOk Try.prog 64 21 [2] (bodyOf Try.f64) := ⟨Try.f64, Try.func64, by kernel_rfl, by decide, by kernel_rfl, by kernel_rfl⟩
theorem s64 (k : Int) : PSpec Try.prog 64 [.d (.int .i64 k)] (.d (.int .i64 (fieldsV k))) := by
 refine PSpec.of fn64 (by simp) fun o nk => ?_
 refine wr ?_
 refine ua ?_
 refine u_nil ?_
 refine wr ?_
 refine ua ?_
 refine u_nil ?_
 refine WP.seq fun K3 hK3 => ?_
 refine wr ?_
 refine um ?_
 refine u_nil ?_
 refine WP.block ?_
 refine WP.seq fun K5 hK5 => ?_
 refine WP.block ?_
 refine WP.seq fun K6 hK6 => ?_
 refine WP.block ?_
 refine WP.seq fun K7 hK7 => ?_
 refine WP.block ?_
 refine WP.seq fun K8 hK8 => ?_
 refine WP.block ?_
 refine WP.seq fun K9 hK9 => ?_
 refine WP.block ?_
 refine WP.seq fun K10 hK10 => ?_
 refine WP.block ?_
 refine WP.seq fun K11 hK11 => ?_
 refine WP.seq fun K12 hK12 => ?_
 refine wr ?_
 refine ub ?_
 refine ua ?_
 refine u_nil ?_
 refine wc (fun hc14 => ?_) (fun hc14 => ?_) <;> try simp only [Q0, Q1, Q2, Q3, Q4, Q5, Q6, Q7, Q8, ge_iff_le, gt_iff_lt] at hc14
 ·
  refine WP.exit ?_
  refine hK10 _ ?_
  refine WP.seq fun K15 hK15 => ?_
  refine wr ?_
  refine ua ?_
  refine u_nil ?_
  refine WP.ret ?_
  refine ret_ok rfl ?_ (by omega) (fun _ _ => rfl)
  -- ret 1
  refine congrArg (D.int .i64) ?_
  clear hK3 hK5 hK6 hK7 hK8 hK9 hK10 hK11 hK12 hK15
  simp only [beq_iff_eq, beq_eq_false_iff_ne, ne_eq] at hc14
  simp only [fieldsV]
  first | (simp [hc14]; done) | (simp [hc14]; decide) | (simp_all; done) | (simp_all; decide) | grind
 ·
  refine WP.skip ?_
  refine hK12 _ ?_
  refine WP.seq fun K17 hK17 => ?_
  refine wr ?_
  refine ub ?_
  refine ua ?_
  refine u_nil ?_
  refine wc (fun hc19 => ?_) (fun hc19 => ?_) <;> try simp only [Q0, Q1, Q2, Q3, Q4, Q5, Q6, Q7, Q8, ge_iff_le, gt_iff_lt] at hc19
  ·
   refine WP.exit ?_
   refine hK9 _ ?_
   refine WP.seq fun K20 hK20 => ?_
   refine wr ?_
   refine ua ?_
   refine u_nil ?_
   refine WP.ret ?_
   refine ret_ok rfl ?_ (by omega) (fun _ _ => rfl)
   -- ret 2
   refine congrArg (D.int .i64) ?_
   clear hK3 hK5 hK6 hK7 hK8 hK9 hK10 hK11 hK12 hK17 hK20
   simp only [beq_iff_eq, beq_eq_false_iff_ne, ne_eq] at hc14 hc19
   simp only [fieldsV]
   first | (simp [hc14, hc19]; done) | (simp [hc14, hc19]; decide) | (simp_all; done) | (simp_all; decide) | grind
  ·
   refine WP.skip ?_
   refine hK17 _ ?_
   refine WP.seq fun K22 hK22 => ?_
   refine wr ?_
   refine ub ?_
   refine ua ?_
   refine u_nil ?_
   refine wc (fun hc24 => ?_) (fun hc24 => ?_) <;> try simp only [Q0, Q1, Q2, Q3, Q4, Q5, Q6, Q7, Q8, ge_iff_le, gt_iff_lt] at hc24
   ·
    refine WP.exit ?_
    refine hK8 _ ?_
    refine WP.reg tabOk rfl ?_
    refine ua ?_
    refine u_nil ?_
    refine hK7 _ ?_
    refine WP.seq fun K25 hK25 => ?_
    refine wr ?_
    refine um ?_
    refine ub ?_
    refine ub ?_
    refine ua ?_
    refine u_nil ?_
    refine WP.ret ?_
    refine ret_ok rfl ?_ (by omega) (fun _ _ => rfl)
    -- ret 3
    refine congrArg (D.int .i64) ?_
    clear hK3 hK5 hK6 hK7 hK8 hK9 hK10 hK11 hK12 hK17 hK22 hK25
    simp only [beq_iff_eq, beq_eq_false_iff_ne, ne_eq] at hc14 hc19 hc24
    simp only [fieldsV]
    first | (simp [hc14, hc19, hc24]; done) | (simp [hc14, hc19, hc24]; decide) | (simp_all; done) | (simp_all; decide) | grind
   ·
    refine WP.skip ?_
    refine hK22 _ ?_
    refine WP.seq fun K27 hK27 => ?_
    refine wr ?_
    refine ub ?_
    refine ua ?_
    refine u_nil ?_
    refine wc (fun hc29 => ?_) (fun hc29 => ?_) <;> try simp only [Q0, Q1, Q2, Q3, Q4, Q5, Q6, Q7, Q8, ge_iff_le, gt_iff_lt] at hc29
    ·
     refine WP.exit ?_
     refine hK7 _ ?_
     refine WP.seq fun K30 hK30 => ?_
     refine wr ?_
     refine um ?_
     refine ub ?_
     refine ub ?_
     refine ua ?_
     refine u_nil ?_
     refine WP.ret ?_
     refine ret_ok rfl ?_ (by omega) (fun _ _ => rfl)
     -- ret 4
     refine congrArg (D.int .i64) ?_
     clear hK3 hK5 hK6 hK7 hK8 hK9 hK10 hK11 hK12 hK17 hK22 hK27 hK30
     simp only [beq_iff_eq, beq_eq_false_iff_ne, ne_eq] at hc14 hc19 hc24 hc29
     simp only [fieldsV]
     first | (simp [hc14, hc19, hc24, hc29]; done) | (simp [hc14, hc19, hc24, hc29]; decide) | (simp_all; done) | (simp_all; decide) | grind
    ·
     refine WP.skip ?_
     refine hK27 _ ?_
     refine WP.seq fun K32 hK32 => ?_
     refine wr ?_
     refine ub ?_
     refine ua ?_
     refine u_nil ?_
     refine wc (fun hc34 => ?_) (fun hc34 => ?_) <;> try simp only [Q0, Q1, Q2, Q3, Q4, Q5, Q6, Q7, Q8, ge_iff_le, gt_iff_lt] at hc34
     ·
      refine WP.exit ?_
      refine hK6 _ ?_
      refine WP.seq fun K35 hK35 => ?_
      refine wr ?_
      refine ua ?_
      refine u_nil ?_
      refine WP.ret ?_
      refine ret_ok rfl ?_ (by omega) (fun _ _ => rfl)
      -- ret 5
      refine congrArg (D.int .i64) ?_
      clear hK3 hK5 hK6 hK7 hK8 hK9 hK10 hK11 hK12 hK17 hK22 hK27 hK32 hK35
      simp only [beq_iff_eq, beq_eq_false_iff_ne, ne_eq] at hc14 hc19 hc24 hc29 hc34
      simp only [fieldsV]
      first | (simp [hc14, hc19, hc24, hc29, hc34]; done) | (simp [hc14, hc19, hc24, hc29, hc34]; decide) | (simp_all; done) | (simp_all; decide) | grind
     ·
      refine WP.skip ?_
      refine hK32 _ ?_
      refine WP.seq fun K37 hK37 => ?_
      refine wr ?_
      refine ub ?_
      refine ua ?_
      refine u_nil ?_
      refine wc (fun hc39 => ?_) (fun hc39 => ?_) <;> try simp only [Q0, Q1, Q2, Q3, Q4, Q5, Q6, Q7, Q8, ge_iff_le, gt_iff_lt] at hc39
      ·
       refine WP.skip ?_
       refine hK37 _ ?_
       refine wc (fun hc40 => ?_) (fun hc40 => ?_) <;> try simp only [Q0, Q1, Q2, Q3, Q4, Q5, Q6, Q7, Q8, ge_iff_le, gt_iff_lt] at hc40
       ·
        refine WP.exit ?_
        refine hK5 _ ?_
        refine WP.seq fun K41 hK41 => ?_
        refine wr ?_
        refine ua ?_
        refine u_nil ?_
        refine WP.ret ?_
        refine ret_ok rfl ?_ (by omega) (fun _ _ => rfl)
        -- ret 6
        refine congrArg (D.int .i64) ?_
        clear hK3 hK5 hK6 hK7 hK8 hK9 hK10 hK11 hK12 hK17 hK22 hK27 hK32 hK37 hK41
        simp only [beq_iff_eq, beq_eq_false_iff_ne, ne_eq] at hc14 hc19 hc24 hc29 hc34 hc39 hc40
        simp only [fieldsV]
        first | (simp [hc14, hc19, hc24, hc29, hc34, hc39, hc40]; done) | (simp [hc14, hc19, hc24, hc29, hc34, hc39, hc40]; decide) | (simp_all; done) | (simp_all; decide) | grind
       ·
        refine WP.skip ?_
        refine hK11 _ ?_
        refine WP.exit ?_
        refine hK3 _ ?_
        refine wr ?_
        refine ua ?_
        refine u_nil ?_
        refine WP.ret ?_
        refine ret_ok rfl ?_ (by omega) (fun _ _ => rfl)
        -- ret 7
        refine congrArg (D.int .i64) ?_
        clear hK3 hK5 hK6 hK7 hK8 hK9 hK10 hK11 hK12 hK17 hK22 hK27 hK32 hK37
        simp only [beq_iff_eq, beq_eq_false_iff_ne, ne_eq] at hc14 hc19 hc24 hc29 hc34 hc39 hc40
        simp only [fieldsV]
        first | (simp [hc14, hc19, hc24, hc29, hc34, hc39, hc40]; done) | (simp [hc14, hc19, hc24, hc29, hc34, hc39, hc40]; decide) | (simp_all; done) | (simp_all; decide) | grind
      ·
       refine WP.reg tabOk rfl ?_
       refine ub ?_
       refine ua ?_
       refine u_nil ?_
       refine hK37 _ ?_
       refine wc (fun hc44 => ?_) (fun hc44 => ?_) <;> try simp only [Q0, Q1, Q2, Q3, Q4, Q5, Q6, Q7, Q8, ge_iff_le, gt_iff_lt] at hc44
       ·
        refine WP.exit ?_
        refine hK5 _ ?_
        refine WP.seq fun K45 hK45 => ?_
        refine wr ?_
        refine ua ?_
        refine u_nil ?_
        refine WP.ret ?_
        refine ret_ok rfl ?_ (by omega) (fun _ _ => rfl)
        -- ret 8
        refine congrArg (D.int .i64) ?_
        clear hK3 hK5 hK6 hK7 hK8 hK9 hK10 hK11 hK12 hK17 hK22 hK27 hK32 hK37 hK45
        simp only [beq_iff_eq, beq_eq_false_iff_ne, ne_eq] at hc14 hc19 hc24 hc29 hc34 hc39 hc44
        simp only [fieldsV]
        first | (simp [hc14, hc19, hc24, hc29, hc34, hc39, hc44]; done) | (simp [hc14, hc19, hc24, hc29, hc34, hc39, hc44]; decide) | (simp_all; done) | (simp_all; decide) | grind
       ·
        refine WP.skip ?_
        refine hK11 _ ?_
        refine WP.exit ?_
        refine hK3 _ ?_
        refine wr ?_
        refine ua ?_
        refine u_nil ?_
        refine WP.ret ?_
        refine ret_ok rfl ?_ (by omega) (fun _ _ => rfl)
        -- ret 9
        refine congrArg (D.int .i64) ?_
        clear hK3 hK5 hK6 hK7 hK8 hK9 hK10 hK11 hK12 hK17 hK22 hK27 hK32 hK37
        simp only [beq_iff_eq, beq_eq_false_iff_ne, ne_eq] at hc14 hc19 hc24 hc29 hc34 hc39 hc44
        simp only [fieldsV]
        first | (simp [hc14, hc19, hc24, hc29, hc34, hc39, hc44]; done) | (simp [hc14, hc19, hc24, hc29, hc34, hc39, hc44]; decide) | (simp_all; done) | (simp_all; decide) | grind

end Go.Proofs.Ytpkcbdhjnnnkbaa.Abs

set_option linter.unusedVariables false
set_option linter.unusedSimpArgs false
set_option maxRecDepth 10000
namespace Go.Proofs.Ytpkcbdhjnnnkbaa.Abs
open Go
theorem retT_ok {ts : List Nat} {sl : Nat → SV} {o o0 : Nat → Option AO} {nk nk0 : Nat} {xs : List D} (h1 : resOf ts ⟨sl, o, nk⟩ = .tup (xs.map .d)) (h3 : nk0 ≤ nk) (h4 : ∀ t, t < nk0 → o t = o0 t) :
    retQ ts (fun r o' nk' => r = .tup (xs.map .d) ∧ nk0 ≤ nk' ∧ ∀ t, t < nk0 → o' t = o0 t) .ret ⟨sl, o, nk⟩ := ⟨h1, h3, h4⟩
/-- Which parts an entry has, by its kind: a name, another one, an id, a document, changes. -/
def hasL (k : Int) : List D :=
  if k = 2 then [.bool true, .bool false, .bool true, .bool true, .bool false]
  else if k = 3 then [.bool true, .bool false, .bool true, .bool false, .bool true]
  else if k = 4 then [.bool true, .bool false, .bool true, .bool false, .bool false]
  else if k = 5 ∨ k = 6 then [.bool true, .bool false, .bool false, .bool false, .bool false]
  else if k = 7 then [.bool true, .bool true, .bool false, .bool false, .bool false]
  else [.bool false, .bool false, .bool false, .bool false, .bool false]

end Go.Proofs.Ytpkcbdhjnnnkbaa.Abs

set_option linter.unusedVariables false
set_option linter.unusedSimpArgs false
set_option maxRecDepth 10000
namespace Go.Proofs.Ytpkcbdhjnnnkbaa.Abs
open Go
theorem PSpec.of2C {P : Program} {Θ : Tab} (hΘ : TabOk P Θ) {f : FuncId} {n : Nat} {rs : List ResultVar} {c : Code} {args : List SV} {xs : List D} (hf : FnOkC P f n rs c) (hn : args.length ≤ n)
    (h : ∀ o nk, WP P n nk c ⟨slots args, o, nk⟩ (retC Θ rs fun r o' nk' => r = .tup (xs.map .d) ∧ nk ≤ nk' ∧ ∀ t, t < nk → o' t = o t)) : PSpec P f args (.tup (xs.map .d)) := fun o nk => by
  refine Spec.pure (fun m => ?_) ?_ (Spec.of_bodyC hΘ hf hn (h o nk))
  · exact lts_of fun i c hc => by
      rw [List.getElem?_map] at hc
      obtain ⟨d, _, rfl⟩ := Option.map_eq_some_iff.1 hc
      trivial
  · show SV.tup (SV.rens id (xs.map .d)) = _
    rw [SV.rens_id]
theorem retC_ok {Θ : Tab} {a t b : Nat} {sl : Nat → SV} {o o0 : Nat → Option AO} {nk nk0 : Nat} {x y x' y' : D} (h1 : ResIs Θ ⟨sl, o, nk⟩ (.cell a t) (.d x')) (h2 : sl b = .d y') (hx : x' = x) (hy : y' = y) (h3 : nk0 ≤ nk) (h4 : ∀ t, t < nk0 → o t = o0 t) :
    retC Θ [.cell a t, .tmp b] (fun r o' nk' => r = .tup ([x, y].map .d) ∧ nk0 ≤ nk' ∧ ∀ t, t < nk0 → o' t = o0 t) .ret ⟨sl, o, nk⟩ :=
  ⟨[.d x', .d y'], ⟨h1, h2.symm, trivial⟩, by rw [hx, hy]; rfl, h3, h4⟩
/-- The order of two values that may be. -/
def cmpS (doc : Bool) (c : Val → Val → Int) : List Val → List Val → List Str → List Str → Int
  | x :: xs, y :: ys, n :: ns, m :: ms => orI [if doc = true then Go.Lib.compareBytes n m else 0, c x y, cmpS doc c xs ys ns ms]
  | x :: xs, y :: ys, _, _ => orI [c x y, cmpS doc c xs ys [] []]
  | xs, ys, _, _ => cmpI xs.length ys.length

end Go.Proofs.Ytpkcbdhjnnnkbaa.Abs

set_option linter.unusedVariables false
set_option linter.unusedSimpArgs false
set_option maxRecDepth 10000
namespace Go.Proofs.Ytpkcbdhjnnnkbaa.Abs
open Go
/-- The number that digits say. -/
def digN : Str → Nat → Nat
  | [], n => n
  | c :: s, n => digN s (10 * n + (c.toNat - 48))
def isDig (c : UInt8) : Bool := decide (48 ≤ c.toNat) && decide (c.toNat ≤ 57)
/-- The index that a step says; -1 if none. -/
def stepI (s : Str) : Int := if s.length < 1 ∨ 3 < s.length ∨ (s[0]? = some 48 ∧ 1 < s.length) then -1 else if s.all isDig then (digN s 0 : Int) else -1
theorem digN_snoc : ∀ (s : Str) (c : UInt8) (n : Nat), digN (s ++ [c]) n = 10 * digN s n + (c.toNat - 48)
  | [], c, n => rfl
  | x :: s, c, n => by simp only [List.cons_append, digN]; exact digN_snoc s c _
theorem digN_lt : ∀ (s : Str) (n m : Nat), s.all isDig = true → n < 10 ^ m → digN s n < 10 ^ (m + s.length)
  | [], n, m, _, hn => hn
  | c :: s, n, m, h, hn => by
    simp only [List.all_cons, Bool.and_eq_true, isDig, decide_eq_true_eq] at h
    have h1 : 10 * n + (c.toNat - 48) < 10 ^ (m + 1) := by rw [Nat.pow_succ]; omega
    have := digN_lt s (10 * n + (c.toNat - 48)) (m + 1) (by simpa [isDig] using h.2) h1
    simp only [digN, List.length_cons]
    rwa [show m + (s.length + 1) = m + 1 + s.length by omega]
theorem digN_le {s : Str} (h : s.all isDig = true) (hl : s.length ≤ 3) : digN s 0 < 1000 := by
  have := digN_lt s 0 0 h (by simp)
  have h2 : 10 ^ (0 + s.length) ≤ 10 ^ 3 := Nat.pow_le_pow_right (by omega) (by omega)
  omega
theorem dig_step {n : Nat} {c : UInt8} (hn : n < 1000) (h1 : 48 ≤ c.toNat) : SV.d (.int .i64 (IntKind.i64.wrap (IntKind.i64.wrap (10 * (n : Int)) + IntKind.i64.wrap (IntKind.u8.wrap ((c.toNat : Int) - 48))))) = SV.d (.int .i64 ((10 * n + (c.toNat - 48) : Nat) : Int)) := by
  have hc : c.toNat < 256 := c.toNat_lt
  rw [wrap_u8, wrap_i64 (m := 10 * (n : Int)) (by omega) (by omega), wrap_i64 (m := ((c.toNat : Int) - 48) % 256) (by omega) (by omega), wrap_i64 (by omega) (by omega)]
  refine congrArg (fun m : Int => SV.d (.int .i64 m)) ?_
  omega
theorem stepI_neg {s : Str} (h1 : 1 ≤ s.length) (h3 : s.length ≤ 3) {a b : Bool} (hq : (a || b) = false ∧ (decide (bAt s (0 : Int).toNat = 48) && decide ((1 : Int) < s.length)) = false) : stepI s = if s.all isDig then (digN s 0 : Int) else -1 := by
  have h0 : 0 < s.length := by omega
  unfold stepI
  rw [if_neg]
  rintro (h | h | ⟨h, h2⟩)
  · omega
  · omega
  · have hq2 := hq.2
    rw [List.getElem?_eq_getElem h0, Option.some.injEq] at h
    rw [Int.toNat_zero, bAt_eq h0, h] at hq2
    simp at hq2
    omega

end Go.Proofs.Ytpkcbdhjnnnkbaa.Abs

set_option linter.unusedVariables false
set_option linter.unusedSimpArgs false
set_option maxRecDepth 10000
namespace Go.Proofs.Ytpkcbdhjnnnkbaa.Abs
open Go
def idxL (s : Str) : List D := if 0 ≤ stepI s then [.int .i64 (stepI s), .bool true] else [.int .i64 0, .bool false]
theorem dec_dig {s : Str} {i : Nat} (h : i < s.length) (h2 : (Utf8.decode ⟨s.toArray⟩ i).1 ≤ 57) : Utf8.decode ⟨s.toArray⟩ i = ((s[i]'h).toNat, 1) := by
  have hs : i < (⟨s.toArray⟩ : ByteArray).size := by simpa [ByteArray.size] using h
  have hg : (⟨s.toArray⟩ : ByteArray)[i]'hs = s[i]'h := rfl
  by_cases ha : (s[i]'h).toNat < 128
  · have := decode_ascii ⟨s.toArray⟩ i hs (by rw [hg]; exact ha)
    rw [this, hg]
  · have := (decode_high ⟨s.toArray⟩ i hs (by rw [hg]; omega)).1
    omega
theorem dig_not {s : Str} {i : Nat} (h : i < s.length) (h2 : (Utf8.decode ⟨s.toArray⟩ i).1 < 48 ∨ 57 < (Utf8.decode ⟨s.toArray⟩ i).1) : isDig (s[i]'h) = false := by
  have hs : i < (⟨s.toArray⟩ : ByteArray).size := by simpa [ByteArray.size] using h
  have hg : (⟨s.toArray⟩ : ByteArray)[i]'hs = s[i]'h := rfl
  simp only [isDig, Bool.and_eq_false_iff, decide_eq_false_iff_not]
  by_cases ha : (s[i]'h).toNat < 128
  · have := decode_ascii ⟨s.toArray⟩ i hs (by rw [hg]; exact ha)
    rw [this, hg] at h2
    simp only at h2
    omega
  · omega
theorem wrap_i32 {m : Int} (h1 : -2147483648 ≤ m) (h2 : m ≤ 2147483647) : IntKind.i32.wrap m = m := by
  simp only [IntKind.wrap, IntKind.bits, IntKind.signed]
  simp
  omega
theorem dig_step2 {n c : Nat} (hn : n < 1000) (h1 : 48 ≤ c) (h2 : c ≤ 57) : SV.d (.int .i64 (IntKind.i64.wrap (IntKind.i64.wrap (10 * (n : Int)) + IntKind.i64.wrap (IntKind.i32.wrap ((c : Int) - 48))))) = SV.d (.int .i64 ((10 * n + (c - 48) : Nat) : Int)) := by
  rw [wrap_i32 (by omega) (by omega), wrap_i64 (m := 10 * (n : Int)) (by omega) (by omega), wrap_i64 (m := (c : Int) - 48) (by omega) (by omega), wrap_i64 (by omega) (by omega)]
  refine congrArg (fun m : Int => SV.d (.int .i64 m)) ?_
  omega
theorem idx_no {s : Str} (h : stepI s = -1) : idxL s = [.int .i64 0, .bool false] := by
  unfold idxL; rw [if_neg (by omega)]
theorem idx_at {s : Str} {n : Nat} (h : stepI s = (n : Int)) : idxL s = [.int .i64 (n : Int), .bool true] := by
  unfold idxL; rw [if_pos (by omega), h]
theorem stepI_out {s : Str} (h : s.length < 1 ∨ 3 < s.length ∨ (s[0]? = some 48 ∧ 1 < s.length)) : stepI s = -1 := by
  unfold stepI; rw [if_pos h]
theorem stepI_in {s : Str} (h1 : 1 ≤ s.length) (h3 : s.length ≤ 3) (h : ¬ (s[0]? = some 48 ∧ 1 < s.length)) : stepI s = if s.all isDig then (digN s 0 : Int) else -1 := by
  unfold stepI
  rw [if_neg]
  rintro (h' | h' | h')
  · omega
  · omega
  · exact h h'
theorem zero_head {s : Str} (h0 : 0 < s.length) : bAt s (0 : Int).toNat = 48 ↔ s[0]? = some 48 := by
  rw [Int.toNat_zero, bAt_eq h0, List.getElem?_eq_getElem h0, Option.some.injEq]
  exact toNat_eq (n := 48) (by omega)

theorem fn99 : FnOk Try.prog 99 43 [2, 3] (bodyOf Try.f99) := ⟨Try.f99, Try.func99, by kernel_rfl, by decide, by kernel_rfl, by kernel_rfl⟩
theorem s99 (s : Str) : PSpec Try.prog 99 [.d (.str s)] (.tup ((idxL s).map .d)) := by
 refine PSpec.of2 fn99 (by simp) fun o nk => ?_
 refine wr ?_
 refine ua ?_
 refine ua ?_
 refine u_nil ?_
 refine WP.seq fun K2 hK2 => ?_
 refine wr ?_
 refine um ?_
 refine u_step (o_len_str rfl th9 rfl ?_)
 refine ub ?_
 refine um ?_
 apply gF
 · rfl
 · intro hg
   exact pm
 apply gF
 · rfl
 · intro hg; try simp only [hg, ct]; try simp only [hg, ct, Bt]
   refine o_len_str rfl th9 rfl ⟨rfl, rfl, rfl⟩
 apply gF
 · rfl
 · intro hg; try simp only [hg, ct]; try simp only [hg, ct, Bt]
   exact pb
 refine uO ?_
 refine um ?_
 apply gF
 · rfl
 · intro hg
   exact pm
 apply gF
 · rfl
 · intro hg; try simp only [hg, ct]; try simp only [hg, ct, Bt]
   refine o_len_str rfl th9 rfl ⟨rfl, rfl, rfl⟩
 apply gF
 · rfl
 · intro hg; try simp only [hg, ct]; try simp only [hg, ct, Bt]
   exact pb
 apply gF
 · rfl
 · intro hg; try simp only [hg, ct]; try simp only [hg, ct, Bt]
   exact pm
 apply u_guard
 · exact GC.ct _ _
 · intro hg
   exact pm
 apply u_guard
 · exact GC.ct _ _
 · intro hg; try simp only [hg, ct]; try simp only [hg, ct, Bt]
   have hg2 := hg; try simp only [Q0, Q1, Q2, Q3, Q4, Q5, Q6, Q9, Qa, Qb, Qc, Qd] at hg2
   refine o_ix rfl rfl th9 rfl ?_ ?_ ⟨rfl, rfl, rfl⟩
   · decide
   · simp at hg2; simp; omega
 apply u_guard
 · exact GC.ct _ _
 · intro hg; try simp only [hg, ct]; try simp only [hg, ct, Bt]
   exact pb
 apply gF
 · rfl
 · intro hg; try simp only [hg, ct]; try simp only [hg, ct, Bt]
   exact pA
 refine uO ?_
 refine u_nil ?_
 refine wc (fun hc4 => ?_) (fun hc4 => ?_) <;> try simp only [Q0, Q1, Q2, Q3, Q4, Q5, Q6, Q7, Q8, ge_iff_le, gt_iff_lt] at hc4
 ·
  refine wr ?_
  refine ua ?_
  refine ua ?_
  refine u_nil ?_
  refine WP.ret ?_
  refine retT_ok ?_ (by omega) (fun _ _ => rfl)
  clear hK2
  have hq := hc4
  have hs : stepI s = -1 := by
    refine stepI_out ?_
    simp only [Bool.or_eq_true, Bool.and_eq_true, decide_eq_true_eq, beq_iff_eq] at hq
    rcases hq with (h | h) | ⟨h2, h⟩
    · exact .inl (by omega)
    · exact .inr (.inl (by omega))
    · exact .inr (.inr ⟨(zero_head (by omega)).1 h, by omega⟩)
  rw [idx_no hs]; rfl
 ·
  have hq := Bool.or_eq_false_iff.1 hc4
  have hq1 := Bool.or_eq_false_iff.1 hq.1
  have hl1 : 1 ≤ s.length := by have := hq1.1; simp at this; omega
  have hl3 : s.length ≤ 3 := by have := hq1.2; simp at this; omega
  refine WP.skip ?_
  refine hK2 _ ?_
  refine wr ?_
  refine ua ?_
  refine u_nil ?_
  refine WP.seq fun K7 hK7 => ?_
  refine wr ?_
  refine um ?_
  refine u_step (g_range rfl th9 rfl fun o9 hb9 hk9 => ?_)
  refine u_nil ?_
  refine WP.block ?_
  refine WP.loopL (ι := Nat × (Nat → Option AO)) (fun ⟨i, o2⟩ => ⟨al [(4, .d (.int .i64 (digN (s.take i) 0 : Nat))), (26, .raw nk)], o2, (nk + 1)⟩) (fun ⟨i, o2⟩ => i ≤ s.length ∧ o2 nk = some (.raw (itOb s i)) ∧ (∀ t, t < nk → o2 t = o t) ∧ (s.take i).all isDig = true) (fun ⟨i, o2⟩ => s.length - i) (fun ⟨i, o2⟩ hA => ?_) ⟨0, o9⟩ ?_ ?_
  ·
   obtain ⟨hle, hob, hfr, hin_i⟩ := hA
   refine wr ?_
   refine u_step (g_next rfl hob (fun hp11 o11 hb11 hk11 => ?_) (fun hp11 => ?_))
   ·
    refine ue ?_
    refine u_nil ?_
    refine WP.seq fun K12 hK12 => ?_
    refine WP.cond rfl (fun hc13 => ?_) (fun hc13 => by cases hc13)
    refine WP.skip ?_
    refine hK12 _ ?_
    refine WP.block ?_
    refine wr ?_
    refine ue ?_
    refine ua ?_
    refine u_nil ?_
    refine WP.seq fun K15 hK15 => ?_
    refine wr ?_
    refine um ?_
    refine ub ?_
    refine um ?_
    apply gF
    · rfl
    · intro hg
      exact pm
    apply gF
    · rfl
    · intro hg; try simp only [hg, ct]; try simp only [hg, ct, Bt]
      exact pb
    refine uO ?_
    refine u_nil ?_
    refine wc (fun hc17 => ?_) (fun hc17 => ?_) <;> try simp only [Q0, Q1, Q2, Q3, Q4, Q5, Q6, Q7, Q8, ge_iff_le, gt_iff_lt] at hc17
    ·
     refine wr ?_
     refine ua ?_
     refine ua ?_
     refine u_nil ?_
     refine WP.ret ?_
     refine retT_ok ?_ (by omega) (fun t ht => (hk11 t (by omega)).trans ((hfr t (by omega))))
     have hz : ¬ (s[0]? = some 48 ∧ 1 < s.length) := by
       rintro ⟨h, h2⟩
       have h3 := hq.2
       rw [(zero_head (by omega)).2 h] at h3
       simp at h3; omega
     have hb := hc17
     simp only [Bool.or_eq_true, decide_eq_true_eq] at hb
     have hd := dig_not (s := s) (i := i) (by omega) (by omega)
     have hs : stepI s = -1 := by rw [stepI_in hl1 hl3 hz, if_neg (by rw [all_false (p := isDig) (by omega) hd]; simp)]
     rw [idx_no hs]; rfl
    ·
     refine WP.skip ?_
     refine hK15 _ ?_
     refine WP.reg tabOk rfl ?_
     refine um ?_
     refine ub ?_
     refine um ?_
     refine ub ?_
     refine uc th21 th3 ?_
     refine ub ?_
     refine ua ?_
     refine u_nil ?_
     -- back
     have hb := Bool.or_eq_false_iff.1 hc17
     simp only [decide_eq_false_iff_not] at hb
     have hdd := dec_dig (s := s) (i := i) (by omega) (by omega)
     have hlt := digN_le hin_i (by simp; omega)
     have h9 := dig_step2 (n := digN (s.take i) 0) (c := (Utf8.decode ⟨s.toArray⟩ i).1) hlt (by omega) (by omega)
     have hd1 : s[i].toNat = (Utf8.decode ⟨s.toArray⟩ i).1 := by rw [hdd]
     refine ⟨⟨i + 1, o11⟩, ⟨by omega, ?_, (fun t ht => (hk11 t (by omega)).trans ((hfr t (by omega)))), ?_⟩, by simp only; omega, ?_⟩
     · have hft := hb11
       rw [hdd] at hft; exact hft
     · rw [all_snoc (by omega), hin_i]; simp only [isDig, Bool.true_and, Bool.and_eq_true, decide_eq_true_eq]; omega
     · refine Le.al ?_
       simp only [List.forall_mem_cons]
       refine ⟨?_, rfl, by simp⟩
       rw [take_snoc (by omega), digN_snoc, hd1, ← h9]
       rfl
   ·
    refine ue ?_
    refine u_nil ?_
    refine WP.seq fun K19 hK19 => ?_
    refine WP.cond rfl (fun hc20 => by cases hc20) (fun hc20 => ?_)
    refine WP.exit ?_
    refine hK7 _ ?_
    refine wr ?_
    refine um ?_
    refine ua ?_
    refine ua ?_
    refine u_nil ?_
    refine WP.ret ?_
    refine retT_ok ?_ (by omega) (fun t ht => (hfr t (by omega)))
    have hz : ¬ (s[0]? = some 48 ∧ 1 < s.length) := by
      rintro ⟨h, h2⟩
      have h3 := hq.2
      rw [(zero_head (by omega)).2 h] at h3
      simp at h3; omega
    have h1 := all_true (by omega) hin_i
    have hs : stepI s = (digN (s.take i) 0 : Int) := by rw [stepI_in hl1 hl3 hz, if_pos h1, List.take_of_length_le (by omega)]
    rw [idx_at hs]; rfl
  ·
   refine ⟨by simp, hb9, (fun t ht => (hk9 t (by omega))), by simp⟩
  ·
   refine Le.al ?_
   simp only [List.forall_mem_cons]
   exact ⟨rfl, rfl, by simp⟩

end Go.Proofs.Ytpkcbdhjnnnkbaa.Abs

set_option linter.unusedVariables false
set_option linter.unusedSimpArgs false
set_option maxRecDepth 10000
namespace Go.Proofs.Ytpkcbdhjnnnkbaa.Abs
open Go
theorem cmpI_zero {a b : Int} : cmpI a b = 0 ↔ a = b := by unfold cmpI; split <;> (try split) <;> omega
theorem orI_zero {x : Int} {r : List Int} : orI (x :: r) = 0 ↔ x = 0 ∧ orI r = 0 := by
  simp only [orI]; split <;> simp_all
theorem cmpB_zero : ∀ {s t : Str}, Go.Lib.compareBytes s t = 0 ↔ s = t
  | [], [] => by simp [Go.Lib.compareBytes]
  | [], _ :: _ => by simp [Go.Lib.compareBytes]
  | _ :: _, [] => by simp [Go.Lib.compareBytes]
  | a :: s, b :: t => by
    have ih := cmpB_zero (s := s) (t := t)
    simp only [Go.Lib.compareBytes, List.cons.injEq]
    by_cases h1 : a < b
    · have : a ≠ b := fun e => by subst e; exact UInt8.lt_irrefl _ h1
      simp [h1, this]
    · by_cases h2 : b < a
      · have : a ≠ b := fun e => by subst e; exact UInt8.lt_irrefl _ h2
        simp [h1, h2, this]
      · have : a = b := UInt8.le_antisymm (UInt8.not_lt.1 h2) (UInt8.not_lt.1 h1)
        simp [h1, h2, this, ih]
mutual
/-- The order of two values that may be. -/
def cmpV : Val → Val → Int
  | .mk k i t xs ns, w => orI [cmpI k w.kind, cmpI i w.int, Go.Lib.compareBytes t w.text, cmpsV xs (decide (k = 7)) w.items ns w.names]
def cmpsV : List Val → Bool → List Val → List Str → List Str → Int
  | [], _, ys, _, _ => cmpI 0 ys.length
  | x :: xs, doc, ys, ns, ms => match ys with
    | [] => 1
    | y :: ys => orI [if doc = true then Go.Lib.compareBytes (ns.headD []) (ms.headD []) else 0, cmpV x y, cmpsV xs doc ys ns.tail ms.tail]
end
mutual
theorem cmpV_refl : ∀ v, cmpV v v = 0
  | .mk k i t xs ns => by
    have h := cmpsV_refl xs (decide (k = 7)) ns
    rw [cmpV]
    simp only [Val.kind, Val.int, Val.text, Val.items, Val.names, orI_zero, h, cmpI_zero.2 rfl, cmpB_zero.2 rfl]
    simp [orI]
theorem cmpsV_refl : ∀ xs doc ns, cmpsV xs doc xs ns ns = 0
  | [], _, _ => by rw [cmpsV]; rfl
  | x :: xs, doc, ns => by
    have h1 := cmpV_refl x
    have h2 := cmpsV_refl xs doc ns.tail
    rw [cmpsV]
    simp only [orI_zero, h1, h2, cmpB_zero.2 rfl]
    simp [orI]
end
mutual
theorem cmpV_eq : ∀ (v w : Val), mayV v = true → mayV w = true → cmpV v w = 0 → v = w
  | .mk k i t xs ns, .mk k' i' t' ys ms, hv, hw, h => by
    rw [cmpV] at h
    simp only [Val.kind, Val.int, Val.text, Val.items, Val.names, orI_zero, cmpI_zero, cmpB_zero] at h
    obtain ⟨rfl, rfl, rfl, h4, _⟩ := h
    have hm1 : maysV xs = true := by rw [mayV] at hv; simp at hv; exact hv.1.1
    have hm2 : maysV ys = true := by rw [mayV] at hw; simp at hw; exact hw.1.1
    obtain ⟨rfl, h6⟩ := cmpsV_eq xs ys hm1 hm2 _ _ _ h4
    have hn : ns = ms := by
      by_cases hk : k = 7
      · subst hk
        exact h6 (by simp) (may7 hv) (may7 hw)
      · rw [mayV] at hv hw
        simp only [Bool.and_eq_true, kindOk] at hv hw
        have h1 := hv.2
        have h2 := hw.2
        have : ns.length = 0 ∧ ms.length = 0 := by
          constructor
          · grind
          · grind
        rw [List.eq_nil_of_length_eq_zero this.1, List.eq_nil_of_length_eq_zero this.2]
    rw [hn]
theorem cmpsV_eq : ∀ (xs ys : List Val), maysV xs = true → maysV ys = true → ∀ (doc : Bool) (ns ms : List Str), cmpsV xs doc ys ns ms = 0 → xs = ys ∧ (doc = true → ns.length = xs.length → ms.length = ys.length → ns = ms)
  | [], ys, _, _, doc, ns, ms, h => by
    rw [cmpsV, cmpI_zero] at h
    have : ys = [] := List.eq_nil_of_length_eq_zero (by omega)
    subst this
    exact ⟨rfl, fun _ h1 h2 => by rw [List.eq_nil_of_length_eq_zero h1, List.eq_nil_of_length_eq_zero h2]⟩
  | x :: xs, [], _, _, doc, ns, ms, h => by rw [cmpsV] at h; cases h
  | x :: xs, y :: ys, hx, hy, doc, ns, ms, h => by
    rw [cmpsV] at h
    simp only [orI_zero] at h
    obtain ⟨h1, h2, h3, _⟩ := h
    simp only [maysV, Bool.and_eq_true] at hx hy
    have e1 := cmpV_eq x y hx.1 hy.1 h2
    obtain ⟨e2, e3⟩ := cmpsV_eq xs ys hx.2 hy.2 doc ns.tail ms.tail h3
    refine ⟨by rw [e1, e2], fun hd l1 l2 => ?_⟩
    rw [if_pos hd, cmpB_zero] at h1
    cases ns with
    | nil => simp at l1
    | cons n ns =>
      cases ms with
      | nil => simp at l2
      | cons m ms =>
        simp only [List.headD_cons] at h1
        have e4 : ns = ms := e3 hd (by simpa using l1) (by simpa using l2)
        rw [h1, e4]
end
/-- The order of any two values. -/
def compV (v w : Val) : Int := if mayV v = true then (if mayV w = true then cmpV v w else 1) else if mayV w = true then -1 else 0
theorem comp_same {v w : Val} (hv : mayV v = true) (hw : mayV w = true) : decide (compV v w = 0) = sameV v w := by
  unfold compV
  rw [if_pos hv, if_pos hw, Bool.eq_iff_iff]
  simp only [decide_eq_true_eq, same_eq]
  exact ⟨fun h => cmpV_eq v w hv hw h, fun h => by rw [h]; exact cmpV_refl w⟩
theorem orI_ne {a b c d : Int} (h : orI [a, b, c] ≠ 0) : orI [a, b, c, d] = orI [a, b, c] := by
  simp only [orI] at *
  split <;> (try split) <;> (try split) <;> simp_all
theorem orI_eq {a b c d : Int} (h : orI [a, b, c] = 0) : orI [a, b, c, d] = d := by
  simp only [orI_zero] at h
  obtain ⟨rfl, rfl, rfl, _⟩ := h
  simp [orI]
  exact fun h => h.symm
theorem cmps_step {xs ys : List Val} {ns ms : List Str} {doc : Bool} {i : Nat} (hx : i < xs.length) (hy : i < ys.length) :
    cmpsV (xs.drop i) doc (ys.drop i) (ns.drop i) (ms.drop i) = orI [if doc = true then Go.Lib.compareBytes (ns.getD i []) (ms.getD i []) else 0, cmpV (xs[i]'hx) (ys[i]'hy), cmpsV (xs.drop (i + 1)) doc (ys.drop (i + 1)) (ns.drop (i + 1)) (ms.drop (i + 1))] := by
  rw [List.drop_eq_getElem_cons hx, List.drop_eq_getElem_cons hy, cmpsV]
  simp only [List.headD_eq_head?_getD, List.head?_drop, List.getD_eq_getElem?_getD, List.tail_drop]
theorem cmps_end {xs ys : List Val} {ns ms : List Str} {doc : Bool} {i : Nat} (h : ¬ (i < xs.length ∧ i < ys.length)) (h1 : i ≤ xs.length) (h2 : i ≤ ys.length) :
    cmpsV (xs.drop i) doc (ys.drop i) (ns.drop i) (ms.drop i) = cmpI xs.length ys.length := by
  by_cases hx : i < xs.length
  · have hy : ys.length = i := by omega
    have e : ys.drop i = [] := List.drop_eq_nil_of_le (by omega)
    rw [List.drop_eq_getElem_cons hx, e, cmpsV]
    unfold cmpI
    rw [if_neg (by omega), if_pos (by omega)]
  · have e : xs.drop i = [] := List.drop_eq_nil_of_le (by omega)
    rw [e, cmpsV, List.length_drop]
    unfold cmpI
    split <;> split <;> (try split) <;> omega
theorem may7n {k i : Int} {t : Str} {xs : List Val} {ns : List Str} (h : mayV (.mk k i t xs ns) = true) (hk : k = 7) : ns.length = xs.length := by subst hk; exact may7 h

theorem fn135 : FnOk Try.prog 135 78 [4] (bodyOf Try.f135) := ⟨Try.f135, Try.func135, by kernel_rfl, by decide, by kernel_rfl, by kernel_rfl⟩
theorem s135A (m : Nat) : ∀ (v w : Val), SizeOf.sizeOf v < m → mayV v = true → mayV w = true → PSpec Try.prog 135 [.d (encV v), .d (encV w)] (.d (.int .i64 (cmpV v w))) := by
 induction m with
 | zero => intros; omega
 | succ m ih =>
  rintro ⟨kd, it, tx, xs, ns⟩ ⟨kd2, it2, tx2, ys, ms⟩ hv hmv hmw
  refine PSpec.bd fun hbd => ?_
  have hx : xs.length ≤ 9223372036854775807 := by simpa [encVs_length] using hbd.1.2.2.2.1.1
  have hy : ys.length ≤ 9223372036854775807 := by simpa [encVs_length] using hbd.2.1.2.2.2.1.1
  refine PSpec.of fn135 (by simp) fun o nk => ?_
  refine wr ?_
  refine u_step (g_box rfl fun o2 hb2 hk2 => ?_)
  refine u_step (g_box rfl fun o3 hb3 hk3 => ?_)
  have hb2_3 := (hk3 _ (by omega)).trans hb2
  refine ua ?_
  refine u_nil ?_
  refine WP.seq fun K4 hK4 => ?_
  refine wd ?_
  refine df th27 th3 hb2_3 ?_
  refine dl th3 hb2_3 ?_
  refine df th27 th3 hb3 ?_
  refine dl th3 hb3 ?_
  refine d_step (o_pcall (s139 _ _) rfl ⟨rfl, rfl, rfl⟩) ?_
  refine df th27 th3 hb2_3 ?_
  refine dl th3 hb2_3 ?_
  refine df th27 th3 hb3 ?_
  refine dl th3 hb3 ?_
  refine d_step (o_pcall (s139 _ _) rfl ⟨rfl, rfl, rfl⟩) ?_
  refine df th27 th9 hb2_3 ?_
  refine dl th9 hb2_3 ?_
  refine df th27 th9 hb3 ?_
  refine dl th9 hb3 ?_
  refine d_step (o_pcall (s140 _ _) rfl ⟨rfl, rfl, rfl⟩) ?_
  refine d_step (o_bs rfl th64 rfl th3 rfl rfl (by decide) rfl (by decide) (by decide) ⟨rfl, rfl, rfl⟩) ?_
  refine d_step (o_pcall (s138 [cmpI kd kd2, cmpI it it2, Go.Lib.compareBytes tx tx2]) rfl ⟨rfl, rfl, rfl⟩) ?_
  refine da ?_
  refine d_nil ?_
  refine wr ?_
  refine um ?_
  refine ub ?_
  refine u_nil ?_
  refine wc (fun hc7 => ?_) (fun hc7 => ?_) <;> try simp only [Q0, Q1, Q2, Q3, Q4, Q5, Q6, Q7, Q8, ge_iff_le, gt_iff_lt] at hc7
  ·
   refine wr ?_
   refine um ?_
   refine ua ?_
   refine u_nil ?_
   refine WP.ret ?_
   refine ret_ok rfl ?_ (by omega) (fun t ht => (hk3 t (by omega)).trans ((hk2 t (by omega))))
   -- ret 1
   clear hK4
   refine congrArg (D.int .i64) ?_
   rw [cmpV]
   exact (orI_ne (by simpa using hc7)).symm
  ·
   have hq0 : orI [cmpI kd kd2, cmpI it it2, Go.Lib.compareBytes tx tx2] = 0 := by simpa using hc7
   have hq := hq0
   simp only [orI_zero, cmpI_zero, cmpB_zero] at hq
   obtain ⟨rfl, rfl, rfl, _⟩ := hq
   have hcm : cmpV (.mk kd it tx xs ns) (.mk kd it tx ys ms) = cmpsV xs (decide (kd = 7)) ys ns ms := by rw [cmpV]; exact orI_eq hq0
   refine WP.skip ?_
   refine hK4 _ ?_
   refine WP.seq fun K9 hK9 => ?_
   refine wr ?_
   refine uf th27 th25 hb2_3 ?_
   refine ul th25 hb2_3 ?_
   refine un th25 ?_
   refine uf th27 th25 hb3 ?_
   refine ul th25 hb3 ?_
   refine un th25 ?_
   refine u_step (o_mm (by decide) rfl ?_)
   refine um ?_
   refine u_nil ?_
   refine WP.block ?_
   refine WP.loopL (ι := Nat) (fun i => ⟨al [(2, .loc nk 0), (3, .loc (nk + 1) 0), (35, .d (.int .i64 (if ((encVs ys).length : Int) < ((encVs xs).length : Int) then ((encVs ys).length : Int) else ((encVs xs).length : Int)))), (36, .d (.int .i64 i))], o3, ((nk + 1) + 1)⟩) (fun i => i ≤ xs.length ∧ i ≤ ys.length ∧ cmpV (.mk kd it tx xs ns) (.mk kd it tx ys ms) = cmpsV (xs.drop i) (decide (kd = 7)) (ys.drop i) (ns.drop i) (ms.drop i)) (fun i => xs.length - i) (fun i hA => ?_) 0 ?_ ?_
   ·
    obtain ⟨hi1, hi2, hin⟩ := hA
    refine wr ?_
    refine ub ?_
    refine u_nil ?_
    refine WP.seq fun K12 hK12 => ?_
    refine wc (fun hc13 => ?_) (fun hc13 => ?_) <;> try simp only [Q0, Q1, Q2, Q3, Q4, Q5, Q6, Q7, Q8, ge_iff_le, gt_iff_lt] at hc13
    ·
     have hlt : i < xs.length ∧ i < ys.length := by have := hc13; (try simp only [encVs_length] at this); constructor <;> (split at this <;> omega)
     have hst := cmps_step (xs := xs) (ys := ys) (ns := ns) (ms := ms) (doc := decide (kd = 7)) hlt.1 hlt.2
     refine WP.skip ?_
     refine hK12 _ ?_
     refine WP.seq fun K14 hK14 => ?_
     refine WP.block ?_
     refine wr ?_
     refine um ?_
     refine ua ?_
     refine u_nil ?_
     refine WP.seq fun K16 hK16 => ?_
     refine wr ?_
     refine uf th27 th3 hb2_3 ?_
     refine ul th3 hb2_3 ?_
     refine ub ?_
     refine u_nil ?_
     refine wc (fun hc18 => ?_) (fun hc18 => ?_) <;> try simp only [Q0, Q1, Q2, Q3, Q4, Q5, Q6, Q7, Q8, ge_iff_le, gt_iff_lt] at hc18
     ·
      have hk7 : kd = 7 := by simpa using hc18
      have hln : ns.length = xs.length := may7n hmv hk7
      have hlm : ms.length = ys.length := may7n hmw hk7
      have hdc : decide (kd = 7) = true := by simp [hk7]
      have e1 : ns.getD i [] = ns[i] := by simp [show i < ns.length by omega]
      have e2 : ms.getD i [] = ms[i] := by simp [show i < ms.length by omega]
      refine wd ?_
      refine df th27 th22 hb2_3 ?_
      refine dl th22 hb2_3 ?_
      refine dm ?_
      first | refine d_step (o_ia_map rfl rfl th22 rfl th9 rfl (by omega) ⟨rfl, rfl, rfl⟩) ?_ | refine d_step (o_ia_vs rfl rfl th22 rfl th9 rfl (by omega) ⟨rfl, rfl, rfl⟩) ?_
      refine dL th9 ?_
      refine df th27 th22 hb3 ?_
      refine dl th22 hb3 ?_
      refine dm ?_
      first | refine d_step (o_ia_map rfl rfl th22 rfl th9 rfl (by omega) ⟨rfl, rfl, rfl⟩) ?_ | refine d_step (o_ia_vs rfl rfl th22 rfl th9 rfl (by omega) ⟨rfl, rfl, rfl⟩) ?_
      refine dL th9 ?_
      refine d_step (o_pcall (s140 _ _) rfl ⟨rfl, rfl, rfl⟩) ?_
      refine da ?_
      refine d_nil ?_
      refine wr ?_
      refine um ?_
      refine ub ?_
      refine u_nil ?_
      refine wc (fun hc21 => ?_) (fun hc21 => ?_) <;> try simp only [Q0, Q1, Q2, Q3, Q4, Q5, Q6, Q7, Q8, ge_iff_le, gt_iff_lt] at hc21
      ·
       refine wr ?_
       refine um ?_
       refine ua ?_
       refine u_nil ?_
       refine WP.ret ?_
       refine ret_ok rfl ?_ (by omega) (fun t ht => (hk3 t (by omega)).trans ((hk2 t (by omega))))
       -- ret 2
       clear hK4 hK9 hK12 hK14 hK16
       refine congrArg (D.int .i64) ?_
       rw [hin, hst, if_pos hdc, e1, e2]
       have hl := hc21
       simp only [orI]
       rw [if_neg (by simpa using hl)]
      ·
       have hX : (if decide (kd = 7) = true then Go.Lib.compareBytes (ns.getD i []) (ms.getD i []) else 0) = 0 := by rw [if_pos hdc, e1, e2]; simpa using hc21
       refine WP.skip ?_
       refine hK16 _ ?_
       refine wd ?_
       refine df th27 th25 hb2_3 ?_
       refine dl th25 hb2_3 ?_
       refine dm ?_
       first | refine d_step (o_ia_map rfl rfl th25 rfl th27 rfl (by omega) ⟨rfl, rfl, rfl⟩) ?_ | refine d_step (o_ia_vs rfl rfl th25 rfl th27 rfl (by omega) ⟨rfl, rfl, rfl⟩) ?_
       refine dL th27 ?_
       refine df th27 th25 hb3 ?_
       refine dl th25 hb3 ?_
       refine dm ?_
       first | refine d_step (o_ia_map rfl rfl th25 rfl th27 rfl (by omega) ⟨rfl, rfl, rfl⟩) ?_ | refine d_step (o_ia_vs rfl rfl th25 rfl th27 rfl (by omega) ⟨rfl, rfl, rfl⟩) ?_
       refine dL th27 ?_
       refine d_step (o_pcall (ih _ _ (by exact items_lt' (by omega) hv) (by exact may_items hmv (by omega)) (by exact may_items hmw (by omega))) rfl ⟨rfl, rfl, rfl⟩) ?_
       refine da ?_
       refine d_nil ?_
       refine wr ?_
       refine um ?_
       refine ub ?_
       refine u_nil ?_
       refine wc (fun hc25 => ?_) (fun hc25 => ?_) <;> try simp only [Q0, Q1, Q2, Q3, Q4, Q5, Q6, Q7, Q8, ge_iff_le, gt_iff_lt] at hc25
       ·
        refine wr ?_
        refine um ?_
        refine ua ?_
        refine u_nil ?_
        refine WP.ret ?_
        refine ret_ok rfl ?_ (by omega) (fun t ht => (hk3 t (by omega)).trans ((hk2 t (by omega))))
        -- ret 3
        clear hK4 hK9 hK12 hK14 hK16
        refine congrArg (D.int .i64) ?_
        have hl := hc25
        rw [hin, hst, hX]
        simp only [orI, if_true]
        rw [if_neg (by simpa using hl)]
       ·
        refine WP.skip ?_
        refine hK14 _ ?_
        refine WP.reg tabOk rfl ?_
        refine ub ?_
        refine um ?_
        refine u_nil ?_
        -- back
        have hl := hc25
        refine ⟨i + 1, ⟨by omega, by omega, ?_⟩, by omega, ?_⟩
        · rw [hin, hst, hX, show cmpV xs[i] ys[i] = 0 from by simpa using hl]
          simp only [orI, if_true]
          split
          · rename_i h0; exact h0.symm
          · rfl
        · refine Le.al ?_
          simp only [List.forall_mem_cons]
          exact ⟨rfl, rfl, rfl, cnt (by omega), by simp⟩
     ·
      have hdc : decide (kd = 7) = false := by simpa using hc18
      have hX : (if decide (kd = 7) = true then Go.Lib.compareBytes (ns.getD i []) (ms.getD i []) else 0) = 0 := by rw [hdc]; rfl
      refine WP.skip ?_
      refine hK16 _ ?_
      refine wd ?_
      refine df th27 th25 hb2_3 ?_
      refine dl th25 hb2_3 ?_
      refine dm ?_
      first | refine d_step (o_ia_map rfl rfl th25 rfl th27 rfl (by omega) ⟨rfl, rfl, rfl⟩) ?_ | refine d_step (o_ia_vs rfl rfl th25 rfl th27 rfl (by omega) ⟨rfl, rfl, rfl⟩) ?_
      refine dL th27 ?_
      refine df th27 th25 hb3 ?_
      refine dl th25 hb3 ?_
      refine dm ?_
      first | refine d_step (o_ia_map rfl rfl th25 rfl th27 rfl (by omega) ⟨rfl, rfl, rfl⟩) ?_ | refine d_step (o_ia_vs rfl rfl th25 rfl th27 rfl (by omega) ⟨rfl, rfl, rfl⟩) ?_
      refine dL th27 ?_
      refine d_step (o_pcall (ih _ _ (by exact items_lt' (by omega) hv) (by exact may_items hmv (by omega)) (by exact may_items hmw (by omega))) rfl ⟨rfl, rfl, rfl⟩) ?_
      refine da ?_
      refine d_nil ?_
      refine wr ?_
      refine um ?_
      refine ub ?_
      refine u_nil ?_
      refine wc (fun hc29 => ?_) (fun hc29 => ?_) <;> try simp only [Q0, Q1, Q2, Q3, Q4, Q5, Q6, Q7, Q8, ge_iff_le, gt_iff_lt] at hc29
      ·
       refine wr ?_
       refine um ?_
       refine ua ?_
       refine u_nil ?_
       refine WP.ret ?_
       refine ret_ok rfl ?_ (by omega) (fun t ht => (hk3 t (by omega)).trans ((hk2 t (by omega))))
       -- ret 4
       clear hK4 hK9 hK12 hK14 hK16
       refine congrArg (D.int .i64) ?_
       have hl := hc29
       rw [hin, hst, hX]
       simp only [orI, if_true]
       rw [if_neg (by simpa using hl)]
      ·
       refine WP.skip ?_
       refine hK14 _ ?_
       refine WP.reg tabOk rfl ?_
       refine ub ?_
       refine um ?_
       refine u_nil ?_
       -- back
       have hl := hc29
       refine ⟨i + 1, ⟨by omega, by omega, ?_⟩, by omega, ?_⟩
       · rw [hin, hst, hX, show cmpV xs[i] ys[i] = 0 from by simpa using hl]
         simp only [orI, if_true]
         split
         · rename_i h0; exact h0.symm
         · rfl
       · refine Le.al ?_
         simp only [List.forall_mem_cons]
         exact ⟨rfl, rfl, rfl, cnt (by omega), by simp⟩
    ·
     have hend := cmps_end (xs := xs) (ys := ys) (ns := ns) (ms := ms) (doc := decide (kd = 7)) (i := i) (by have := hc13; (try simp only [encVs_length] at this); rintro ⟨h1, h2⟩; split at this <;> omega) (by omega) (by omega)
     refine WP.exit ?_
     refine hK9 _ ?_
     refine wr ?_
     refine uf th27 th25 hb2_3 ?_
     refine ul th25 hb2_3 ?_
     refine un th25 ?_
     refine uf th27 th25 hb3 ?_
     refine ul th25 hb3 ?_
     refine un th25 ?_
     refine u_step (o_pcall (s139 _ _) rfl ?_)
     refine ua ?_
     refine u_nil ?_
     refine WP.ret ?_
     refine ret_ok rfl ?_ (by omega) (fun t ht => (hk3 t (by omega)).trans ((hk2 t (by omega))))
     -- ret 5
     clear hK4 hK9 hK12
     refine congrArg (D.int .i64) ?_
     rw [hin, hend]
     simp only [encVs_length]
   ·
    exact ⟨by omega, by omega, by simpa using hcm⟩
   ·
    refine Le.al ?_
    simp only [List.forall_mem_cons]
    exact ⟨rfl, rfl, rfl, rfl, by simp⟩
theorem s135 (v w : Val) (hmv : mayV v = true) (hmw : mayV w = true) : PSpec Try.prog 135 [.d (encV v), .d (encV w)] (.d (.int .i64 (cmpV v w))) := s135A _ v w (Nat.lt_succ_self _) hmv hmw

theorem fn129 : FnOk Try.prog 129 23 [4] (bodyOf Try.f129) := ⟨Try.f129, Try.func129, by kernel_rfl, by decide, by kernel_rfl, by kernel_rfl⟩
theorem s129 (v w : Val) : PSpec Try.prog 129 [.d (encV v), .d (encV w)] (.d (.int .i64 (compV v w))) := by
 obtain ⟨kd, it, tx, xs, ns⟩ := v
 obtain ⟨kd2, it2, tx2, ys, ms⟩ := w
 refine PSpec.of fn129 (by simp) fun o nk => ?_
 refine wr ?_
 refine u_step (g_box rfl fun o2 hb2 hk2 => ?_)
 refine u_step (g_box rfl fun o3 hb3 hk3 => ?_)
 have hb2_3 := (hk3 _ (by omega)).trans hb2
 refine ua ?_
 refine u_nil ?_
 refine WP.seq fun K4 hK4 => ?_
 refine wd ?_
 refine dg th27 hb2_3 ?_
 refine d_step (o_pcall (s34 (.mk kd it tx xs ns)) rfl ⟨rfl, rfl, rfl⟩) ?_
 refine dg th27 hb3 ?_
 refine d_step (o_pcall (s34 (.mk kd2 it2 tx2 ys ms)) rfl ⟨rfl, rfl, rfl⟩) ?_
 refine da ?_
 refine da ?_
 refine d_nil ?_
 refine WP.block ?_
 refine wr ?_
 refine um ?_
 refine um ?_
 apply gT
 · rfl
 · intro hg
   exact pm
 refine uA ?_
 refine ua ?_
 refine u_nil ?_
 refine wc (fun hc7 => ?_) (fun hc7 => ?_) <;> try simp only [Q0, Q1, Q2, Q3, Q4, Q5, Q6, Q7, Q8, ge_iff_le, gt_iff_lt] at hc7
 ·
  refine wr ?_
  refine ug th27 hb2_3 ?_
  refine ug th27 hb3 ?_
  refine u_step (o_pcall (s135 (.mk kd it tx xs ns) (.mk kd2 it2 tx2 ys ms) (by have := hc7; simp at this; exact this.1) (by have := hc7; simp at this; exact this.2)) rfl ?_)
  refine ua ?_
  refine u_nil ?_
  refine WP.ret ?_
  refine ret_ok rfl ?_ (by omega) (fun t ht => (hk3 t (by omega)).trans ((hk2 t (by omega))))
  -- ret 1
  clear hK4
  refine congrArg (D.int .i64) ?_
  simp only [compV]
  grind
 ·
  refine wr ?_
  refine um ?_
  refine ua ?_
  refine u_nil ?_
  refine wc (fun hc10 => ?_) (fun hc10 => ?_) <;> try simp only [Q0, Q1, Q2, Q3, Q4, Q5, Q6, Q7, Q8, ge_iff_le, gt_iff_lt] at hc10
  ·
   refine wr ?_
   refine ua ?_
   refine u_nil ?_
   refine WP.ret ?_
   refine ret_ok rfl ?_ (by omega) (fun t ht => (hk3 t (by omega)).trans ((hk2 t (by omega))))
   -- ret 2
   clear hK4
   refine congrArg (D.int .i64) ?_
   simp only [compV]
   grind
  ·
   refine wr ?_
   refine um ?_
   refine ua ?_
   refine u_nil ?_
   refine wc (fun hc13 => ?_) (fun hc13 => ?_) <;> try simp only [Q0, Q1, Q2, Q3, Q4, Q5, Q6, Q7, Q8, ge_iff_le, gt_iff_lt] at hc13
   ·
    refine wr ?_
    refine ua ?_
    refine u_nil ?_
    refine WP.ret ?_
    refine ret_ok rfl ?_ (by omega) (fun t ht => (hk3 t (by omega)).trans ((hk2 t (by omega))))
    -- ret 3
    clear hK4
    refine congrArg (D.int .i64) ?_
    simp only [compV]
    grind
   ·
    refine WP.skip ?_
    refine hK4 _ ?_
    refine wr ?_
    refine ua ?_
    refine u_nil ?_
    refine WP.ret ?_
    refine ret_ok rfl ?_ (by omega) (fun t ht => (hk3 t (by omega)).trans ((hk2 t (by omega))))
    -- ret 4
    clear hK4
    refine congrArg (D.int .i64) ?_
    simp only [compV]
    grind

theorem fn117 : FnOk Try.prog 117 9 [4] (bodyOf Try.f117) := ⟨Try.f117, Try.func117, by kernel_rfl, by decide, by kernel_rfl, by kernel_rfl⟩
theorem s117 (v w : Val) : PSpec Try.prog 117 [.d (encV v), .d (encV w)] (.d (.bool (decide (compV v w = 0)))) := by
 obtain ⟨kd, it, tx, xs, ns⟩ := v
 obtain ⟨kd2, it2, tx2, ys, ms⟩ := w
 refine PSpec.of fn117 (by simp) fun o nk => ?_
 refine wr ?_
 refine u_step (g_box rfl fun o2 hb2 hk2 => ?_)
 refine u_step (g_box rfl fun o3 hb3 hk3 => ?_)
 have hb2_3 := (hk3 _ (by omega)).trans hb2
 refine ua ?_
 refine u_nil ?_
 refine wr ?_
 refine ug th27 hb2_3 ?_
 refine ug th27 hb3 ?_
 refine u_step (o_pcall (s129 (.mk kd it tx xs ns) (.mk kd2 it2 tx2 ys ms)) rfl ?_)
 refine ub ?_
 refine ua ?_
 refine u_nil ?_
 refine WP.ret ?_
 refine ret_ok rfl ?_ (by omega) (fun t ht => (hk3 t (by omega)).trans ((hk2 t (by omega))))
 -- ret 1
 refine congrArg D.bool ?_
 rw [Bool.eq_iff_iff]
 simp

end Go.Proofs.Ytpkcbdhjnnnkbaa.Abs

set_option linter.unusedVariables false
set_option linter.unusedSimpArgs false
set_option maxRecDepth 10000
namespace Go.Proofs.Ytpkcbdhjnnnkbaa.Abs
open Go
theorem encVs_snoc {xs : List Val} {i : Nat} (h : i < xs.length) : encVs (xs.take (i + 1)) = encVs (xs.take i) ++ [encV (xs[i]'h)] := by
  rw [List.take_succ_eq_append_getElem h, encVs_map, encVs_map, List.map_append]; rfl

theorem fn57 : FnOk Try.prog 57 8 [2] (bodyOf Try.f57) := ⟨Try.f57, Try.func57, by kernel_rfl, by decide, by kernel_rfl, by kernel_rfl⟩
theorem s57 (ns : List Str) (hsz : ns.length ≤ 1099511627776) : DSpec Try.prog 57 [.d (.sl 1 (ns.map .str))] 9 1 (ns.map .str) := by
 refine DSpec.of fn57 (by simp) fun o nk => ?_
 refine wr ?_
 refine ua ?_
 refine u_nil ?_
 refine WP.seq fun K2 hK2 => ?_
 refine wr ?_
 refine um ?_
 refine u_step (o_eqnil rfl rfl th22 rfl fun nb4 hnb4 => ?_)
 refine u_nil ?_
 refine wc (fun hc5 => ?_) (fun hc5 => ?_) <;> try simp only [Q0, Q1, Q2, Q3, Q4, Q5, Q6, Q7, Q8, ge_iff_le, gt_iff_lt] at hc5
 ·
  refine wr ?_
  refine ua ?_
  refine u_nil ?_
  refine WP.ret ?_
  refine dnil_ok rfl ?_ (by omega) (fun _ _ => rfl)
  exact hnb4 hc5
 ·
  refine WP.skip ?_
  refine hK2 _ ?_
  refine wr ?_
  refine u_step (g_bs0 th22 rfl th9 rfl rfl (by decide) fun o8 hb8 hk8 => ?_)
  refine um ?_
  refine u_step (g_ap rfl rfl th22 rfl th9 rfl rfl (by decide) rfl hb8 (by simp only [List.length_nil, List.length_map]; omega) (by simp only [List.length_nil, List.length_map]; omega) fun o9 hb9 hk9 => ?_)
  refine u_step (o_assignV (v := .row _) rfl ?_)
  refine u_nil ?_
  refine WP.ret ?_
  refine drow_ok rfl (by omega) (by omega) ?_ (fun t ht => (hk9 t (by omega) (by omega)).trans ((hk8 t (by omega))))
  simpa using hb9

theorem fn35 : FnOkC Try.prog 35 28 [.cell 2 27] (bodyOf Try.f35) := ⟨Try.f35, Try.func35, by kernel_rfl, by decide, by kernel_rfl, by kernel_rfl⟩
theorem s35A (m : Nat) : ∀ v : Val, SizeOf.sizeOf v < m → szV v ≤ 1099511627776 → PSpec Try.prog 35 [.d (encV v)] (.d (encV v)) := by
 induction m with
 | zero => intros; omega
 | succ m ih =>
  rintro ⟨kd, it, tx, xs, ns⟩ hv hsz
  have hsz2 : 1 + tx.length + szVs xs + szN ns ≤ 1099511627776 := hsz
  have hxl := szVs_len xs
  have hnl := szN_len ns
  have hln := encVs_length xs
  refine PSpec.ofC1 tabOk fn35 (by simp) fun o nk => ?_
  refine wr ?_
  refine u_step (g_box rfl fun o2 hb2 hk2 => ?_)
  refine u_step (g_alloc th27 rfl fun o3 hb3 hk3 => ?_)
  have hb2_3 := (hk3 _ (by omega)).trans hb2
  refine u_nil ?_
  refine wr ?_
  refine uf th27 th22 hb2_3 ?_
  refine ul th22 hb2_3 ?_
  refine u_step (o_pcall ((s57 ns (by omega)).frz) rfl ?_)
  refine uf th27 th22 hb2_3 ?_
  refine u_step0 (g_st rfl rfl rfl th22 rfl hb2_3 (by simp) fun o5 hb5 hk5 => ?_)
  have hb3_5 := (hk5 _ (by omega)).trans hb3
  refine u_nil ?_
  refine wr ?_
  refine uf th27 th25 hb5 ?_
  refine ul th25 hb5 ?_
  refine ua ?_
  refine u_nil ?_
  refine wr ?_
  refine uf th27 th25 hb5 ?_
  refine u_step0 (g_st rfl rfl rfl th25 rfl hb5 (by simp) fun o8 hb8 hk8 => ?_)
  have hb3_8 := (hk8 _ (by omega)).trans hb3_5
  refine u_nil ?_
  refine WP.seq fun K9 hK9 => ?_
  refine wr ?_
  refine um ?_
  refine un th25 ?_
  refine um ?_
  refine u_nil ?_
  refine WP.block ?_
  refine WP.loopL (ι := Nat × SV × Option Nat × (Nat → Option AO) × Nat) (fun ⟨i, c, q, o2, nk2⟩ => ⟨al [(1, .loc nk 0), (2, .loc (nk + 1) 0), (13, .d (.sl 5 (encVs xs))), (14, .d (.int .i64 (encVs xs).length)), (15, .d (.int .i64 i))], o2, nk2⟩) (fun ⟨i, c, q, o2, nk2⟩ => i ≤ xs.length ∧ nk + 2 ≤ nk2 ∧ o2 nk = some (.box [.d (.int .i64 kd), .d (.int .i64 it), .d (.str tx), c, .d (.sl 1 (ns.map .str))]) ∧ o2 (nk + 1) = some (.box [.d (.int .i64 0), .d (.int .i64 0), .d (.str []), .d .nil, .d .nil]) ∧ dstOf o2 27 5 c = some (q, encVs (xs.take i)) ∧ (∀ t, q = some t → nk + 2 ≤ t ∧ t < nk2) ∧ ∀ t, t < nk → o2 t = o t) (fun ⟨i, c, q, o2, nk2⟩ => xs.length - i) (fun ⟨i, c, q, o2, nk2⟩ hA => ?_) ⟨0, .d .nil, none, o8, ((nk + 1) + 1)⟩ ?_ ?_
  ·
   obtain ⟨hle, hnk, hob, hzb, hd, hq, hfr⟩ := hA
   refine wr ?_
   refine ub ?_
   refine u_nil ?_
   refine WP.seq fun K12 hK12 => ?_
   refine wc (fun hc13 => ?_) (fun hc13 => ?_) <;> try simp only [Q0, Q1, Q2, Q3, Q4, Q5, Q6, Q7, Q8, ge_iff_le, gt_iff_lt] at hc13
   ·
    refine WP.skip ?_
    refine hK12 _ ?_
    refine WP.seq fun K14 hK14 => ?_
    refine WP.block ?_
    refine wr ?_
    first | refine u_step (o_ia_map rfl rfl th25 rfl th27 rfl (by omega) ?_) | refine u_step (o_ia_vs rfl rfl th25 rfl th27 rfl (by omega) ?_)
    refine uL th27 ?_
    refine u_step (g_alloc th27 rfl fun o16 hb16 hk16 => ?_)
    have hob_16 := (hk16 _ (by omega)).trans hob
    have hzb_16 := (hk16 _ (by omega)).trans hzb
    have hd_16 := dst_keep hd fun t e => hk16 t (by have := hq t e; omega)
    refine u_step0 (g_sta rfl (congrArg SV.d (encV_eq _)) th27 rfl hb16 (by simp [valCells]) fun o17 hb17 hk17 => ?_)
    have hob_17 := (hk17 _ (by omega)).trans hob_16
    have hzb_17 := (hk17 _ (by omega)).trans hzb_16
    have hd_17 := dst_keep hd_16 fun t e => hk17 t (by have := hq t e; omega)
    refine u_nil ?_
    refine WP.dr2 [.q 0 0, .q 0 0, .q 0 0, .q 0 0, .q 0 0, .w 0, .q 1 1, .w 1] [5, 7] ((nk2 + 1) + 1) ((nk2 + 1) + 1) tabOk (by kernel_rfl) rfl (by kernel_rfl) (by kernel_rfl) ?_
    apply Exists.intro
    apply Exists.intro
    refine e_step rfl (o_fa_loc rfl th27 rfl rfl th25 (by decide) hob_17 ⟨rfl, rfl, rfl⟩) ?_
    refine e_step rfl (o_ld_locV rfl th25 rfl hob_17 rfl ⟨rfl, rfl, rfl⟩) ?_
    refine e_step rfl (o_ld_agg rfl th27 rfl hb17 rfl rfl rfl ⟨rfl, rfl, rfl⟩) ?_
    refine e_step rfl (o_pcall (pv (v := xs[i]) (ih _ (by exact items_lt' (by omega) hv) (by have := szVs_get (xs := xs) (j := i) (by omega); omega))) rfl ⟨rfl, rfl, rfl⟩) ?_
    first | refine e_step rfl (o_bs rfl th25 rfl th27 rfl rfl (by decide) rfl (by decide) (by decide) ⟨rfl, rfl, rfl⟩) ?_ | refine e_step rfl (o_bs1 rfl (by simp only [encV_width]) th25 rfl th27 rfl rfl (by decide) (by decide) ⟨rfl, rfl, rfl⟩) ?_
    refine e_w rfl rfl (w_apD rfl th25 rfl th27 rfl rfl (by decide) rfl hd_17 (by simp only [encVs_length, List.length_take, List.length_cons, List.length_nil]; omega) (by simp only [encVs_length, List.length_take, List.length_cons, List.length_nil]; omega) ⟨rfl, rfl, rfl⟩) ?_
    refine e_step rfl (o_fa_loc rfl th27 rfl rfl th25 (by decide) (((upd_ne _ _ (by omega)).trans (killo_ne (fun e => by have := hq _ e; omega))).trans hob_17) ⟨rfl, rfl, rfl⟩) ?_
    refine e_w0 rfl rfl (w_stV rfl rfl (upd_same _ _ _) th25 rfl (((upd_ne _ _ (by omega)).trans (killo_ne (fun e => by have := hq _ e; omega))).trans hob_17) (by simp) ⟨rfl, rfl, rfl⟩) ?_
    refine e_nil rfl fun o20 ho20 => ?_
    have hbZ_20 := (ho20 _).trans ((upd_ne _ _ (by omega)).trans (((upd_ne _ _ (by omega)).trans (killo_ne (fun e => by have := hq _ e; omega))).trans hzb_17))
    have hbb16_20 := (ho20 _).trans ((upd_ne _ _ (by omega)).trans (((upd_ne _ _ (by omega)).trans (killo_ne (fun e => by have := hq _ e; omega))).trans hb17))
    have hbr18_20 := (ho20 _).trans ((upd_ne _ _ (by omega)).trans (upd_same _ _ _))
    have hbB_20 := (ho20 _).trans (upd_same _ _ _)
    have hk20 : ∀ t, t < nk → o20 t = o17 t := fun t ht => (ho20 t).trans ((upd_ne _ _ (by omega)).trans ((upd_ne _ _ (by omega)).trans (killo_ne (fun e => by have := hq _ e; omega))))
    refine hK14 _ ?_
    refine WP.reg tabOk rfl ?_
    refine ub ?_
    refine um ?_
    refine u_nil ?_
    -- back
    refine ⟨⟨i + 1, .row _, some _, o20, ((nk2 + 1) + 1)⟩, ⟨by omega, by omega, hbB_20, hbZ_20, (encVs_snoc (xs := xs) (i := i) (by omega)) ▸ dst_row hbr18_20, fun t e => by injection e with e; omega, (fun t ht => (hk20 t (by omega)).trans ((hk17 t (by omega)).trans ((hk16 t (by omega)).trans ((hfr t (by omega))))))⟩, by simp only; omega, ?_⟩
    refine Le.al ?_
    simp only [List.forall_mem_cons]
    exact ⟨rfl, rfl, rfl, rfl, cnt (by omega), by simp⟩
   ·
    refine WP.exit ?_
    refine hK9 _ ?_
    refine WP.frzC (pre := [.d (.int .i64 kd), .d (.int .i64 it), .d (.str tx)]) (post := [.d (.sl 1 (ns.map .str))]) [(1, .loc nk 0), (2, .loc (nk + 1) 0)] nk hob hd (Nat.le_refl _) (fun t e => ⟨rfl, rfl⟩) (fun t e => by simp only [List.forall_mem_cons]; exact ⟨rfl, rfl, by simp⟩) (fun e => by simp only [List.forall_mem_cons]; exact ⟨rfl, rfl, by simp⟩) fun o9 hB9 hk9 hm9 => ?_
    have hZ9 := hm9 _ _ (by omega) hzb fun t e => rfl
    have hF9 : ∀ t, t < nk → o9 t = o t := fun t ht => (hk9 t ht (fun e => by have := hq _ e; omega)).trans (hfr t ht)
    refine wr ?_
    refine ug th27 hB9 ?_
    refine u_step0 (g_sta rfl rfl th27 rfl hZ9 (by first | (simp; done) | (simp [D.leaves, D.width, valCells]; done) | decide) fun o22 hb22 hk22 => ?_)
    have hB9_22 := (hk22 _ (by omega)).trans hB9
    refine u_nil ?_
    refine WP.ret ?_
    refine retC1_ok (resis_agg rfl th27 rfl hb22 rfl rfl rfl) ?_ (by omega) (fun t ht => (hk22 t (by omega)).trans ((hF9 t (by omega))))
    rw [List.take_of_length_le (by omega)]
    rfl
  ·
   refine ⟨by omega, by omega, hb8, hb3_8, rfl, by simp, (fun t ht => (hk8 t (by omega)).trans ((hk5 t (by omega)).trans ((hk3 t (by omega)).trans ((hk2 t (by omega))))))⟩
  ·
   refine Le.al ?_
   simp only [List.forall_mem_cons]
   exact ⟨rfl, rfl, rfl, rfl, rfl, by simp⟩
theorem s35 (v : Val) (hsz : szV v ≤ 1099511627776) : PSpec Try.prog 35 [.d (encV v)] (.d (encV v)) := s35A _ v (Nat.lt_succ_self _) hsz

end Go.Proofs.Ytpkcbdhjnnnkbaa.Abs

set_option linter.unusedVariables false
set_option linter.unusedSimpArgs false
set_option maxRecDepth 10000
namespace Go.Proofs.Ytpkcbdhjnnnkbaa.Abs
open Go
/-- The place of a step's item; -1: there is none. -/
def placeV (v : Val) (s : Str) : Int :=
  if v.kind = 7 then idxS v.names s else if v.kind = 6 then (if stepI s < v.items.length then stepI s else -1) else -1
/-- What lies at a path. -/
def getV : Val → List Str → Option Val
  | v, [] => some v
  | v, s :: p => if 0 ≤ placeV v s then (match v.items[(placeV v s).toNat]? with
    | some x => getV x p
    | none => none) else none
theorem place7 {k i : Int} {t : Str} {xs : List Val} {ns : List Str} {s : Str} (h : k = 7) : placeV (.mk k i t xs ns) s = idxS ns s := by
  show (if k = 7 then _ else _) = _
  rw [if_pos h]; rfl
def zeroV : Val := .mk 0 0 [] [] []
/-- A value that was looked for. -/
def optL (o : Option Val) : List D := [encV (o.getD zeroV), .bool o.isSome]
def optL0 (o : Option Val) : List D := [match o with
  | some v => encV v
  | none => .agg [.int .i64 0, .int .i64 0, .str [], .nil, .nil], .bool o.isSome]
theorem opt_le (o : Option Val) : D.les (optL0 o) (optL o) := by
  cases o with
  | none => simp [optL0, optL, D.les, D.le, zeroV, encV, encVs]
  | some v => exact D.les_refl _
/-- What lies at a path of a document. -/
def getP (v : Val) (p : List Str) : Option Val := if v.kind = 7 ∧ mayV v = true ∧ pathV p = true then getV v p else none
theorem item_ex {xs : List Val} {j : Nat} (h : j < xs.length) : ∃ x, xs[j]? = some x := ⟨_, List.getElem?_eq_getElem h⟩
theorem getP_no {v : Val} {p : List Str} (hq : ((if v.kind ≠ 7 ∨ mayV v = false then (20 : Int) else if pathV p = true then 0 else 40) != 0) = true) : getP v p = none := by
  simp only [bne_iff_ne, ne_eq] at hq
  unfold getP
  rw [if_neg]
  rintro ⟨q1, q2, q3⟩
  rw [if_neg (by simp [q1, q2]), if_pos q3] at hq
  exact hq rfl
theorem getP_yes {v : Val} {p : List Str} (hq : ((if v.kind ≠ 7 ∨ mayV v = false then (20 : Int) else if pathV p = true then 0 else 40) != 0) = false) : getP v p = getV v p ∧ mayV v = true := by
  simp only [bne_eq_false_iff_eq] at hq
  unfold getP
  split at hq
  · cases hq
  · rename_i hq1
    simp only [ne_eq, not_or, Classical.not_not, Bool.not_eq_false] at hq1
    split at hq
    · rename_i hq2; exact ⟨if_pos ⟨hq1.1, hq1.2, hq2⟩, hq1.2⟩
    · cases hq
theorem pv2 {P : Program} {f : FuncId} {v : Val} {c : SV} {r : SV} (h : PSpec P f [.d (encV v), c] r) : PSpec P f [.d (.agg (valCells v)), c] r := encV_eq v ▸ h
theorem get_step {v : Val} {s : Str} {p : List Str} {x : Val} (h : 0 ≤ placeV v s) (hx : v.items[(placeV v s).toNat]? = some x) : getV v (s :: p) = getV x p := by
  rw [getV, if_pos h, hx]
theorem get_no {v : Val} {s : Str} {p : List Str} (h : placeV v s < 0) : getV v (s :: p) = none := by
  rw [getV, if_neg (by omega)]
theorem items_at {v : Val} {j : Nat} {x : Val} (h : v.items[j]? = some x) : (encVs v.items)[j]? = some (encV x) := by
  rw [encVs_map, List.getElem?_map, h]; rfl
theorem opt_some (v : Val) : optL0 (some v) = [encV v, .bool true] := rfl
theorem opt_none : optL0 none = [.agg [.int .i64 0, .int .i64 0, .str [], .nil, .nil], .bool false] := rfl
theorem s99b (s : Str) : PSpec Try.prog 99 [.d (.str s)] (.tup [.d (.int .i64 (if 0 ≤ stepI s then stepI s else 0)), .d (.bool (decide (0 ≤ stepI s)))]) := by
  have h := s99 s
  have e : (idxL s).map SV.d = [.d (.int .i64 (if 0 ≤ stepI s then stepI s else 0)), .d (.bool (decide (0 ≤ stepI s)))] := by
    unfold idxL
    split <;> simp_all
  rwa [e] at h
theorem idx_lt (ns : List Str) (s : Str) : idxS ns s < ns.length := by
  unfold idxS firstI
  split
  · rename_i h
    have := List.findIdx_lt_length_of_exists (xs := ns) (p := fun x => decide (s = x)) (by simpa using h)
    omega
  · omega
theorem stepI_ge (s : Str) : -1 ≤ stepI s := by unfold stepI; split <;> (try split) <;> omega
theorem may_item {v : Val} (h : mayV v = true) {x : Val} (hx : x ∈ v.items) : mayV x = true := by
  obtain ⟨k, i, t, xs, ns⟩ := v
  obtain ⟨j, hj, rfl⟩ := List.mem_iff_getElem.1 hx
  exact may_items h hj
theorem place_lt {v : Val} (h : mayV v = true) (s : Str) : placeV v s < v.items.length := by
  unfold placeV
  split
  · rename_i hk
    obtain ⟨k, i, t, xs, ns⟩ := v
    simp only [Val.kind] at hk
    subst hk
    have := idx_lt ns s
    have := may7 h
    simp only [Val.names, Val.items]
    omega
  · split
    · split <;> omega
    · omega
theorem get_may : ∀ (p : List Str) (v x : Val), mayV v = true → getV v p = some x → mayV x = true
  | [], v, x, hv, h => by simp only [getV, Option.some.injEq] at h; rw [← h]; exact hv
  | s :: p, v, x, hv, h => by
    simp only [getV] at h
    split at h
    · split at h
      · rename_i y hy
        exact get_may p y x (may_item hv (List.mem_of_getElem? hy)) h
      · cases h
    · cases h
theorem sz_item {v : Val} {j : Nat} {x : Val} (h : v.items[j]? = some x) : szV x ≤ szV v := by
  obtain ⟨k, i, t, xs, ns⟩ := v
  simp only [Val.items] at h
  obtain ⟨hj, rfl⟩ := List.getElem?_eq_some_iff.1 h
  have := szVs_get hj
  simp only [szV]; omega
/-- A part of a struct of the program's: what an entry is. -/
structure Etr where
  term : Int
  kind : Int
  coll : Str
  to : Str
  id : Val
  doc : Val
  deltas : List Dlt
  session : Int
  number : Int
def encE (e : Etr) : D := .agg ([.int .i64 e.term, .int .i64 e.kind, .str e.coll, .str e.to] ++ valCells e.id ++ valCells e.doc ++ [.sl 8 (e.deltas.map encD), .int .i64 e.session, .int .i64 e.number])
structure Flt where
  coll : Str
  path : List Str
  kinds : Int
def encF (f : Flt) : D := .agg [.str f.coll, .sl 1 (f.path.map .str), .int .i64 f.kinds]

theorem fn69 : FnOk Try.prog 69 31 [4] (bodyOf Try.f69) := ⟨Try.f69, Try.func69, by kernel_rfl, by decide, by kernel_rfl, by kernel_rfl⟩
theorem s69 (v : Val) (s : Str) : PSpec Try.prog 69 [.d (encV v), .d (.str s)] (.d (.int .i64 (placeV v s))) := by
 obtain ⟨kd, it, tx, xs, ns⟩ := v
 refine PSpec.of fn69 (by simp) fun o nk => ?_
 refine wr ?_
 refine u_step (g_box rfl fun o2 hb2 hk2 => ?_)
 refine ua ?_
 refine u_nil ?_
 refine WP.seq fun K3 hK3 => ?_
 refine wr ?_
 refine uf th27 th3 hb2 ?_
 refine ul th3 hb2 ?_
 refine u_nil ?_
 refine WP.block ?_
 refine wr ?_
 refine ub ?_
 refine ua ?_
 refine u_nil ?_
 refine wc (fun hc6 => ?_) (fun hc6 => ?_) <;> try simp only [Q0, Q1, Q2, Q3, Q4, Q5, Q6, Q7, Q8, ge_iff_le, gt_iff_lt] at hc6
 ·
  refine wr ?_
  refine uf th27 th22 hb2 ?_
  refine ul th22 hb2 ?_
  refine um ?_
  refine u_step (o_pcall (s98 ns s) rfl ?_)
  refine ua ?_
  refine u_nil ?_
  refine WP.ret ?_
  refine ret_ok rfl ?_ (by omega) (fun t ht => (hk2 t (by omega)))
  -- ret 1
  clear hK3
  refine congrArg (D.int .i64) ?_
  have e1 := encVs_length xs
  have e2 := stepI_ge s
  simp only [beq_iff_eq, beq_eq_false_iff_ne, ne_eq, Bool.and_eq_true, Bool.and_eq_false_iff, decide_eq_true_eq, decide_eq_false_iff_not] at hc6
  simp only [placeV, Val.kind, Val.items, Val.names]
  grind
 ·
  refine wr ?_
  refine ub ?_
  refine ua ?_
  refine u_nil ?_
  refine wc (fun hc9 => ?_) (fun hc9 => ?_) <;> try simp only [Q0, Q1, Q2, Q3, Q4, Q5, Q6, Q7, Q8, ge_iff_le, gt_iff_lt] at hc9
  ·
   refine wr ?_
   refine um ?_
   refine u_step (o_pcall (s99b s) rfl ?_)
   refine u_step (o_moveV (v := .tup _) rfl ?_)
   refine ue ?_
   refine ue ?_
   refine ua ?_
   refine ua ?_
   refine u_nil ?_
   refine wr ?_
   refine um ?_
   refine um ?_
   apply gT
   · rfl
   · intro hg
     exact pm
   apply gT
   · rfl
   · intro hg
     exact pf th27 th25 hb2
   apply gT
   · rfl
   · intro hg; try simp only [hg, ct]; try simp only [hg, ct, Bt]
     exact pl th25 hb2
   apply gT
   · rfl
   · intro hg; try simp only [hg, ct]; try simp only [hg, ct, Bt]
     exact pn th25
   apply gT
   · rfl
   · intro hg; try simp only [hg, ct]; try simp only [hg, ct, Bt]
     exact pb
   refine uA ?_
   refine u_nil ?_
   refine wc (fun hc12 => ?_) (fun hc12 => ?_) <;> try simp only [Q0, Q1, Q2, Q3, Q4, Q5, Q6, Q7, Q8, ge_iff_le, gt_iff_lt] at hc12
   ·
    refine wr ?_
    refine um ?_
    refine ua ?_
    refine u_nil ?_
    refine WP.ret ?_
    refine ret_ok rfl ?_ (by omega) (fun t ht => (hk2 t (by omega)))
    -- ret 2
    clear hK3
    refine congrArg (D.int .i64) ?_
    have e1 := encVs_length xs
    have e2 := stepI_ge s
    simp only [beq_iff_eq, beq_eq_false_iff_ne, ne_eq, Bool.and_eq_true, Bool.and_eq_false_iff, decide_eq_true_eq, decide_eq_false_iff_not] at hc6 hc9 hc12
    simp only [placeV, Val.kind, Val.items, Val.names]
    grind
   ·
    refine WP.skip ?_
    refine hK3 _ ?_
    refine wr ?_
    refine ua ?_
    refine u_nil ?_
    refine WP.ret ?_
    refine ret_ok rfl ?_ (by omega) (fun t ht => (hk2 t (by omega)))
    -- ret 3
    clear hK3
    refine congrArg (D.int .i64) ?_
    have e1 := encVs_length xs
    have e2 := stepI_ge s
    simp only [beq_iff_eq, beq_eq_false_iff_ne, ne_eq, Bool.and_eq_true, Bool.and_eq_false_iff, decide_eq_true_eq, decide_eq_false_iff_not] at hc6 hc9 hc12
    simp only [placeV, Val.kind, Val.items, Val.names]
    grind
  ·
   refine WP.skip ?_
   refine hK3 _ ?_
   refine wr ?_
   refine ua ?_
   refine u_nil ?_
   refine WP.ret ?_
   refine ret_ok rfl ?_ (by omega) (fun t ht => (hk2 t (by omega)))
   -- ret 4
   clear hK3
   refine congrArg (D.int .i64) ?_
   have e1 := encVs_length xs
   have e2 := stepI_ge s
   simp only [beq_iff_eq, beq_eq_false_iff_ne, ne_eq, Bool.and_eq_true, Bool.and_eq_false_iff, decide_eq_true_eq, decide_eq_false_iff_not] at hc6 hc9
   simp only [placeV, Val.kind, Val.items, Val.names]
   grind

theorem fn38 : FnOkC Try.prog 38 34 [.cell 4 27, .tmp 5] (bodyOf Try.f38) := ⟨Try.f38, Try.func38, by kernel_rfl, by decide, by kernel_rfl, by kernel_rfl⟩
theorem s38a (v : Val) (p : List Str) (hsz : szV v ≤ 1099511627776) : PSpec Try.prog 38 [.d (encV v), .d (.sl 1 (p.map .str))] (.tup ((optL0 (getP v p)).map .d)) := by
 refine PSpec.bd fun hbd => ?_
 obtain ⟨kd, it, tx, xs, ns⟩ := v
 have hx : p.length ≤ 9223372036854775807 := by simpa using hbd.2.1.1
 refine PSpec.of2C tabOk fn38 (by simp) fun o nk => ?_
 refine wr ?_
 refine u_step (g_box rfl fun o2 hb2 hk2 => ?_)
 refine u_step (g_alloc th27 rfl fun o3 hb3 hk3 => ?_)
 have hb2_3 := (hk3 _ (by omega)).trans hb2
 refine ua ?_
 refine u_nil ?_
 refine WP.seq fun K4 hK4 => ?_
 refine wr ?_
 refine ug th27 hb2_3 ?_
 refine um ?_
 refine u_step (o_pcall (s68 (.mk kd it tx xs ns) p) rfl ?_)
 refine ub ?_
 refine u_nil ?_
 refine wc (fun hc6 => ?_) (fun hc6 => ?_) <;> try simp only [Q0, Q1, Q2, Q3, Q4, Q5, Q6, Q7, Q8, ge_iff_le, gt_iff_lt] at hc6
 ·
  refine wr ?_
  refine u_step (o_bu rfl th27 rfl rfl ?_)
  refine u_step0 (g_sta rfl rfl th27 rfl hb3 (by first | (simp; done) | (simp [D.leaves, D.width, valCells]; done) | decide) fun o8 hb8 hk8 => ?_)
  have hb2_8 := (hk8 _ (by omega)).trans hb2_3
  refine ua ?_
  refine u_nil ?_
  refine WP.ret ?_
  refine retC_ok (resis_agg rfl th27 rfl hb8 rfl rfl rfl) rfl ?_ ?_ (by omega) (fun t ht => (hk8 t (by omega)).trans ((hk3 t (by omega)).trans ((hk2 t (by omega)))))
  · rw [getP_no hc6]
  · rw [getP_no hc6]; rfl
 ·
  obtain ⟨hp, hmv⟩ := getP_yes hc6
  refine WP.skip ?_
  refine hK4 _ ?_
  refine WP.seq fun K9 hK9 => ?_
  refine wr ?_
  refine um ?_
  refine un th22 ?_
  refine um ?_
  refine u_nil ?_
  refine WP.block ?_
  refine WP.loopL (ι := Nat × Val × (Nat → Option AO)) (fun ⟨i, u, o2⟩ => ⟨al [(2, .loc nk 0), (4, .loc (nk + 1) 0), (14, .d (.sl 1 (p.map .str))), (15, .d (.int .i64 (p.map D.str).length)), (16, .d (.int .i64 i))], o2, ((nk + 1) + 1)⟩) (fun ⟨i, u, o2⟩ => i ≤ p.length ∧ o2 nk = some (.box ((valCells u).map .d)) ∧ o2 (nk + 1) = some (.box [.d (.int .i64 0), .d (.int .i64 0), .d (.str []), .d .nil, .d .nil]) ∧ (∀ t, t < nk → o2 t = o t) ∧ mayV u = true ∧ szV u ≤ 1099511627776 ∧ getV (.mk kd it tx xs ns) p = getV u (p.drop i)) (fun ⟨i, u, o2⟩ => p.length - i) (fun ⟨i, u, o2⟩ hA => ?_) ⟨0, (.mk kd it tx xs ns), o3⟩ ?_ ?_
  ·
   obtain ⟨hle, hob, hzb, hfr, hmu, hsu, hgt⟩ := hA
   refine wr ?_
   refine ub ?_
   refine u_nil ?_
   refine WP.seq fun K12 hK12 => ?_
   refine wc (fun hc13 => ?_) (fun hc13 => ?_) <;> try simp only [Q0, Q1, Q2, Q3, Q4, Q5, Q6, Q7, Q8, ge_iff_le, gt_iff_lt] at hc13
   ·
    refine WP.skip ?_
    refine hK12 _ ?_
    refine WP.seq fun K14 hK14 => ?_
    refine WP.block ?_
    refine wr ?_
    first | refine u_step (o_ia_map rfl rfl th22 rfl th9 rfl (by omega) ?_) | refine u_step (o_ia_vs rfl rfl th22 rfl th9 rfl (by omega) ?_)
    refine uL th9 ?_
    refine ua ?_
    refine u_nil ?_
    refine wr ?_
    refine ug th27 hob ?_
    refine um ?_
    refine u_step (o_pcall (pv2 (v := u) (s69 u p[i])) rfl ?_)
    refine ua ?_
    refine u_nil ?_
    refine WP.seq fun K17 hK17 => ?_
    refine wr ?_
    refine um ?_
    refine ub ?_
    refine u_nil ?_
    refine wc (fun hc19 => ?_) (fun hc19 => ?_) <;> try simp only [Q0, Q1, Q2, Q3, Q4, Q5, Q6, Q7, Q8, ge_iff_le, gt_iff_lt] at hc19
    ·
     refine wr ?_
     refine u_step (o_bu rfl th27 rfl rfl ?_)
     refine u_step0 (g_sta rfl rfl th27 rfl hzb (by first | (simp; done) | (simp [D.leaves, D.width, valCells]; done) | decide) fun o21 hb21 hk21 => ?_)
     have hob_21 := (hk21 _ (by omega)).trans hob
     refine ua ?_
     refine u_nil ?_
     refine WP.ret ?_
     refine retC_ok (resis_agg rfl th27 rfl hb21 rfl rfl rfl) rfl ?_ ?_ (by omega) (fun t ht => (hk21 t (by omega)).trans ((hfr t (by omega))))
     · rw [hp, hgt, List.drop_eq_getElem_cons (by omega), get_no (by omega)]
     · rw [hp, hgt, List.drop_eq_getElem_cons (by omega), get_no (by omega)]; rfl
    ·
     have hp0 : 0 ≤ placeV u p[i] := by omega
     have hlt := place_lt hmu p[i]
     obtain ⟨x, hx⟩ : ∃ x, u.items[(placeV u p[i]).toNat]? = some x := item_ex (xs := u.items) (j := (placeV u p[i]).toNat) (by omega)
     have hxs := sz_item hx
     refine WP.skip ?_
     refine hK17 _ ?_
     refine WP.reg tabOk rfl ?_
     refine uf th27 th25 hob ?_
     refine ul th25 hob ?_
     refine um ?_
     refine u_step (o_ia_sl (a := encV x) rfl rfl th25 rfl th27 rfl (by omega) (items_at hx) ?_)
     refine u_step (o_ld_el rfl th27 (by simp only [encV_leaf, TK.agg, Bool.not_true]) (by simp only [encV_width]) ?_)
     refine u_step0 (g_sta rfl (congrArg SV.d (encV_eq x)) th27 rfl hob (by simp [valCells]) fun o22 hb22 hk22 => ?_)
     have hzb_22 := (hk22 _ (by omega)).trans hzb
     refine u_nil ?_
     refine hK14 _ ?_
     refine WP.reg tabOk rfl ?_
     refine ub ?_
     refine um ?_
     refine u_nil ?_
     -- back
     refine ⟨⟨i + 1, x, o22⟩, ⟨by omega, hb22, hzb_22, (fun t ht => (hk22 t (by omega)).trans ((hfr t (by omega)))), may_item hmu (List.mem_of_getElem? hx), by omega, ?_⟩, by simp only; omega, ?_⟩
     · rw [hgt, List.drop_eq_getElem_cons (by omega), get_step hp0 hx]
     · refine Le.al ?_
       simp only [List.forall_mem_cons]
       exact ⟨rfl, rfl, rfl, rfl, cnt (by omega), by simp⟩
   ·
    refine WP.exit ?_
    refine hK9 _ ?_
    refine wr ?_
    refine ug th27 hob ?_
    refine u_step (o_pcall (pv (v := u) (s35 u (by omega))) rfl ?_)
    refine u_step0 (g_sta rfl (congrArg SV.d (encV_eq u)) th27 rfl hzb (by simp [valCells]) fun o24 hb24 hk24 => ?_)
    have hob_24 := (hk24 _ (by omega)).trans hob
    refine ua ?_
    refine u_nil ?_
    refine WP.ret ?_
    refine retC_ok (resis_agg rfl th27 rfl hb24 rfl rfl rfl) rfl ?_ ?_ (by omega) (fun t ht => (hk24 t (by omega)).trans ((hfr t (by omega))))
    · rw [hp, hgt, List.drop_eq_nil_of_le (by omega), getV]; exact (encV_eq u).symm
    · rw [hp, hgt, List.drop_eq_nil_of_le (by omega), getV]; rfl
  ·
   exact ⟨by omega, hb2_3, hb3, (fun t ht => (hk3 t (by omega)).trans ((hk2 t (by omega)))), hmv, hsz, rfl⟩
  ·
   refine Le.al ?_
   simp only [List.forall_mem_cons]
   exact ⟨rfl, rfl, rfl, rfl, rfl, by simp⟩

theorem s38 (v : Val) (p : List Str) (hsz : szV v ≤ 1099511627776) : PSpec Try.prog 38 [.d (encV v), .d (.sl 1 (p.map .str))] (.tup ((optL (getP v p)).map .d)) := (s38a v p hsz).leT (opt_le _)
end Go.Proofs.Ytpkcbdhjnnnkbaa.Abs

set_option linter.unusedVariables false
set_option linter.unusedSimpArgs false
set_option maxRecDepth 10000
namespace Go.Proofs.Ytpkcbdhjnnnkbaa.Abs
open Go
def idS : Str := [95, 105, 100]
def idK : List Str := [[95, 105, 100]]
/-- May a document be inserted by an id? -/
noncomputable def mayDocV (v id : Val) : Bool := decide (v.kind = 7 ∧ checkV v = 0 ∧ getV v idK = some id)
theorem check_may {v : Val} (h : checkV v = 0) : mayV v = true := by
  unfold checkV at h
  split at h
  · cases h
  · rename_i hm; simpa using hm
theorem path_id : pathV idK = true := by decide
theorem getP_id {v : Val} (h7 : v.kind = 7) (hc : checkV v = 0) : getP v idK = getV v idK := by
  unfold getP; rw [if_pos ⟨h7, check_may hc, path_id⟩]
theorem mayDoc_l {v id : Val} (hi : mayV id = true) : ((getP v idK).isSome && decide (checkV v = 0) && decide (compV ((getP v idK).getD zeroV) id = 0)) = mayDocV v id := by
  rw [Bool.eq_iff_iff]
  simp only [Bool.and_eq_true, decide_eq_true_eq, mayDocV]
  constructor
  · rintro ⟨⟨h1, h2⟩, h3⟩
    have h7 : v.kind = 7 := by
      unfold getP at h1
      split at h1
      · rename_i h; exact h.1
      · cases h1
    rw [getP_id h7 h2] at h1 h3
    obtain ⟨x, hx⟩ := Option.isSome_iff_exists.1 h1
    have hm := get_may idK v x (check_may h2) hx
    rw [hx] at h3
    have := comp_same hm hi
    simp only [Option.getD_some] at h3
    rw [decide_eq_true h3] at this
    exact ⟨h7, h2, by rw [hx, same_eq.1 this.symm]⟩
  · rintro ⟨h7, h2, h3⟩
    rw [getP_id h7 h2, h3]
    refine ⟨⟨rfl, h2⟩, ?_⟩
    have := comp_same hi hi
    rw [same_refl] at this
    simpa using this
theorem refDoc_l {v id : Val} (h7 : v.kind = 7) (hc : checkV v = 0) : ((getV v idK).isSome && sameV ((getV v idK).getD zeroV) id) = mayDocV v id := by
  unfold mayDocV
  rw [Bool.eq_iff_iff]
  simp only [Bool.and_eq_true, decide_eq_true_eq, same_eq, h7, hc, true_and]
  cases getV v idK with
  | none => simp
  | some y => simp
/-- May changes be an update's? -/
def mayDeltasV (l : List Dlt) : Bool := decide (checkD l = 0) && freeD l && l.all fun d => !decide (d.path[0]? = some idS)
theorem checkD_all {l : List Dlt} (h : checkD l = 0) : ∀ d ∈ l, mayD d = true := by
  unfold checkD at h
  split at h
  · cases h
  · split at h
    · rename_i h1; exact List.all_eq_true.1 h1
    · cases h
theorem mayD_path {d : Dlt} (h : mayD d = true) : 0 < d.path.length := by
  unfold mayD pathV at h
  simp only [Bool.and_eq_true, decide_eq_true_eq] at h
  omega

theorem fn116 : FnOkC Try.prog 116 9 [.cell 2 27, .tmp 3] (bodyOf Try.f116) := ⟨Try.f116, Try.func116, by kernel_rfl, by decide, by kernel_rfl, by kernel_rfl⟩
theorem s116 (v : Val) (hsz : szV v ≤ 1099511627776) : PSpec Try.prog 116 [.d (encV v)] (.tup ((optL (getP v idK)).map .d)) := by
 obtain ⟨kd, it, tx, xs, ns⟩ := v
 refine PSpec.of2C tabOk fn116 (by simp) fun o nk => ?_
 refine wr ?_
 refine u_step (g_box rfl fun o2 hb2 hk2 => ?_)
 refine u_step (g_alloc th27 rfl fun o3 hb3 hk3 => ?_)
 have hb2_3 := (hk3 _ (by omega)).trans hb2
 refine ua ?_
 refine u_nil ?_
 refine wr ?_
 refine ug th27 hb2_3 ?_
 refine u_step (o_bs rfl th22 rfl th9 rfl rfl (by decide) rfl (by decide) (by decide) ?_)
 refine u_step (o_pcall (s38 (.mk kd it tx xs ns) idK hsz) rfl ?_)
 refine ue ?_
 refine ue ?_
 refine u_step0 (g_sta rfl (congrArg SV.d (encV_eq _)) th27 rfl hb3 (by simp [valCells]) fun o5 hb5 hk5 => ?_)
 have hb2_5 := (hk5 _ (by omega)).trans hb2_3
 refine ua ?_
 refine u_nil ?_
 refine WP.ret ?_
 refine retC_ok (resis_agg rfl th27 rfl hb5 rfl rfl rfl) rfl ?_ ?_ (by omega) (fun t ht => (hk5 t (by omega)).trans ((hk3 t (by omega)).trans ((hk2 t (by omega)))))
 · exact (encV_eq _).symm
 · rfl

theorem fn96 : FnOk Try.prog 96 23 [4] (bodyOf Try.f96) := ⟨Try.f96, Try.func96, by kernel_rfl, by decide, by kernel_rfl, by kernel_rfl⟩
theorem s96 (v id : Val) (hr : rngV v) (hsz : szV v ≤ 1099511627776) (hi : mayV id = true) : PSpec Try.prog 96 [.d (encV v), .d (encV id)] (.d (.bool (mayDocV v id))) := by
 obtain ⟨kd, it, tx, xs, ns⟩ := v
 obtain ⟨kd2, it2, tx2, ys, ms⟩ := id
 refine PSpec.of fn96 (by simp) fun o nk => ?_
 refine wr ?_
 refine u_step (g_box rfl fun o2 hb2 hk2 => ?_)
 refine u_step (g_box rfl fun o3 hb3 hk3 => ?_)
 have hb2_3 := (hk3 _ (by omega)).trans hb2
 refine ua ?_
 refine u_nil ?_
 refine wr ?_
 refine ug th27 hb2_3 ?_
 refine u_step (o_pcall (s116 (.mk kd it tx xs ns) hsz) rfl ?_)
 refine u_step (o_moveV (v := .tup _) rfl ?_)
 refine ue ?_
 refine ue ?_
 refine u_step (g_alloc th27 rfl fun o5 hb5 hk5 => ?_)
 have hb2_5 := (hk5 _ (by omega)).trans hb2_3
 have hb3_5 := (hk5 _ (by omega)).trans hb3
 refine u_step0 (g_sta rfl (congrArg SV.d (encV_eq _)) th27 rfl hb5 (by simp [valCells]) fun o6 hb6 hk6 => ?_)
 have hb2_6 := (hk6 _ (by omega)).trans hb2_5
 have hb3_6 := (hk6 _ (by omega)).trans hb3_5
 refine ua ?_
 refine u_nil ?_
 refine wr ?_
 refine um ?_
 refine um ?_
 apply gT
 · rfl
 · intro hg
   exact pg th27 hb2_6
 apply gT
 · rfl
 · intro hg; try simp only [hg, ct]; try simp only [hg, ct, Bt]
   refine o_pcall (s53 (.mk kd it tx xs ns) hr hsz) rfl ⟨rfl, rfl, rfl⟩
 apply gT
 · rfl
 · intro hg; try simp only [hg, ct]; try simp only [hg, ct, Bt]
   exact pb
 refine uA ?_
 refine um ?_
 apply gT
 · rfl
 · intro hg
   exact pg th27 hb6
 apply gT
 · rfl
 · intro hg
   exact pg th27 hb3_6
 apply gT
 · rfl
 · intro hg; try simp only [hg, ct]; try simp only [hg, ct, Bt]
   refine o_pcall (pv2 (v := (getP (.mk kd it tx xs ns) idK).getD zeroV) (s117 _ (.mk kd2 it2 tx2 ys ms))) rfl ⟨rfl, rfl, rfl⟩
 refine uA ?_
 refine ua ?_
 refine u_nil ?_
 refine WP.ret ?_
 refine ret_ok rfl ?_ (by omega) (fun t ht => (hk6 t (by omega)).trans ((hk5 t (by omega)).trans ((hk3 t (by omega)).trans ((hk2 t (by omega))))))
 -- ret 1
 refine congrArg D.bool ?_
 exact mayDoc_l hi

theorem fn118 : FnOk Try.prog 118 8 [2] (bodyOf Try.f118) := ⟨Try.f118, Try.func118, by kernel_rfl, by decide, by kernel_rfl, by kernel_rfl⟩
theorem s118 (d : Dlt) (hp : 0 < d.path.length) : PSpec Try.prog 118 [.d (encD d)] (.d (.bool (decide (d.path[0]? = some idS)))) := by
 refine PSpec.of fn118 (by simp) fun o nk => ?_
 refine wr ?_
 refine u_step (g_box rfl fun o2 hb2 hk2 => ?_)
 refine ua ?_
 refine u_nil ?_
 refine wr ?_
 refine uf th46 th22 hb2 ?_
 refine ul th22 hb2 ?_
 refine u_step (o_ia_sl (a := D.str (d.path[0]'hp)) rfl rfl th22 rfl th9 rfl (by decide) (by simp [hp]) ?_)
 refine uL th9 ?_
 refine u_step (o_bin_str rfl (show _ = SV.d (.str [95, 105, 100]) from rfl) rfl ?_)
 refine ua ?_
 refine u_nil ?_
 refine WP.ret ?_
 refine ret_ok rfl ?_ (by omega) (fun t ht => (hk2 t (by omega)))
 -- ret 1
 refine congrArg D.bool ?_
 rw [Bool.eq_iff_iff]
 simp [idS, List.getElem?_eq_getElem hp]

theorem fn97 : FnOk Try.prog 97 17 [2] (bodyOf Try.f97) := ⟨Try.f97, Try.func97, by kernel_rfl, by decide, by kernel_rfl, by kernel_rfl⟩
theorem s97 (l : List Dlt) (hl : l.length ≤ 64 → ∀ d ∈ l, okD d) : PSpec Try.prog 97 [.d (.sl 8 (l.map encD))] (.d (.bool (mayDeltasV l))) := by
 refine PSpec.of fn97 (by simp) fun o nk => ?_
 refine wr ?_
 refine ua ?_
 refine u_nil ?_
 refine wr ?_
 refine u_step (o_assignV (v := .clo _ _ _) rfl ?_)
 refine u_nil ?_
 refine wr ?_
 refine um ?_
 refine u_step (o_pcall (s30 l hl) rfl ?_)
 refine ub ?_
 refine um ?_
 apply gT
 · rfl
 · intro hg
   exact pm
 apply gT
 · rfl
 · intro hg; try simp only [hg, ct]; try simp only [hg, ct, Bt]
   refine o_pcall (s29 l) rfl ⟨rfl, rfl, rfl⟩
 refine uA ?_
 refine um ?_
 apply gT
 · rfl
 · intro hg
   exact pm
 apply gT
 · rfl
 · intro hg
   refine o_moveV (v := .clo _ _ _) rfl ⟨rfl, rfl, rfl⟩
 apply gT
 · rfl
 · intro hg; try simp only [hg, ct]; try simp only [hg, ct, Bt]
   have hg2 := hg; try simp only [Q0, Q1, Q2, Q3, Q4, Q5, Q6, Q9, Qa, Qb, Qc, Qd] at hg2
   refine o_scall (s51 l 118 [] [] (fun d => decide (d.path[0]? = some idS)) (fun x hx => s118 x (mayD_path (checkD_all hg2.1 x hx)) _ _)) rfl ⟨rfl, rfl, rfl⟩
 apply gT
 · rfl
 · intro hg; try simp only [hg, ct]; try simp only [hg, ct, Bt]
   exact pN
 refine uA ?_
 refine ua ?_
 refine u_nil ?_
 refine WP.ret ?_
 refine ret_ok rfl ?_ (by omega) (fun _ _ => rfl)
 -- ret 1
 refine congrArg D.bool ?_
 simp only [mayDeltasV]
 rw [show (l.all fun d => !decide (d.path[0]? = some idS)) = !(l.any fun d => decide (d.path[0]? = some idS)) from by rw [List.all_eq_not_any_not]; simp]
 rfl

end Go.Proofs.Ytpkcbdhjnnnkbaa.Abs

set_option linter.unusedVariables false
set_option linter.unusedSimpArgs false
set_option maxRecDepth 10000
namespace Go.Proofs.Ytpkcbdhjnnnkbaa.Abs
open Go
theorem o_ia_ar {P : Program} {Θ : Tab} {K : SV → (Nat → Option AO) → Nat → Prop} {sl : Nat → SV} {o : Nat → Option AO} {nk : Nat} {x ix : Operand} {t e : Nat} {i j : TI} {q g c : Nat} {cs : List SV} {k : IntKind} {m : Int} (hx : ev sl x = .loc q g) (hy : ev sl ix = .d (.int k m)) (hi : Θ t = some i) (hk : i.k = .arr c e) (hj : Θ e = some j) (ho : o q = some (.box cs)) (h0 : 0 ≤ m) (hlt : m.toNat < c) (h : K (.loc q (g + m.toNat * j.sz)) o nk) : vOp P Θ (.indexAddr t x ix) ⟨sl, o, nk⟩ K := o_ia_arr hx hy hi hk hj h0 hlt ho h
def setA : Nat → List D
  | 0 => List.replicate 256 (.bool false)
  | 1 => (List.replicate 256 (.bool false)).set 36 (.bool true)
  | _ => ((List.replicate 256 (.bool false)).set 36 (.bool true)).set 0 (.bool true)
theorem setA_at {c : Nat} (h : c < 256) : ((setA 2).map SV.d)[c]? = some (.d (.bool (decide (c = 36 ∨ c = 0)))) := by
  simp only [setA, List.getElem?_map, List.getElem?_set, List.getElem?_replicate, List.length_set, List.length_replicate]
  by_cases h0 : c = 0
  · subst h0; simp
  · by_cases h36 : c = 36
    · subst h36; simp
    · have a : ¬ 0 = c := by omega
      have b : ¬ 36 = c := by omega
      simp [h, h0, h36, a, b]
def validR (c : Int) : Bool := decide (0 ≤ c ∧ c < 55296) || decide (57343 < c ∧ c ≤ 1114111)
theorem enc_last {c : Int} (h : 128 ≤ c) (hv : validR c = true) : ∃ m, (Utf8.encode c).data.toList.length = m + 1 ∧ 1 ≤ m ∧ 128 ≤ bAt (Utf8.encode c).data.toList m := by
  have h4 := encode_len4 c
  have hv' : Utf8.valid c = true := by
    simp only [validR, Bool.or_eq_true, decide_eq_true_eq] at hv
    simp only [Utf8.valid, Bool.or_eq_true, Bool.and_eq_true, decide_eq_true_eq]
    rcases hv with ⟨h1, h2⟩ | ⟨h1, h2⟩
    · exact .inl ⟨h1, h2⟩
    · exact .inr ⟨by omega, h2⟩
  have hb : ∀ n : Nat, 128 ≤ (UInt8.ofNat (128 + n % 64)).toNat := fun n => by
    rw [UInt8.toNat_ofNat']; omega
  unfold Utf8.encode
  rw [if_pos hv']
  simp only
  split
  · omega
  · split
    · refine ⟨1, rfl, by omega, ?_⟩
      have := hb c.toNat
      show (128 : Int) ≤ ((UInt8.ofNat (128 + c.toNat % 64)).toNat : Int)
      omega
    · split
      · refine ⟨2, rfl, by omega, ?_⟩
        have := hb c.toNat
        show (128 : Int) ≤ ((UInt8.ofNat (128 + c.toNat % 64)).toNat : Int)
        omega
      · refine ⟨3, rfl, by omega, ?_⟩
        have := hb c.toNat
        show (128 : Int) ≤ ((UInt8.ofNat (128 + c.toNat % 64)).toNat : Int)
        omega
def s2 : Str := [36, 0]
/-- Where a rune stands in the two signs that no name has. -/
def runeI (c : Int) : Int := if c = 36 then 0 else if c = 0 then 1 else -1
theorem idx2 {c : Int} (h0 : 0 ≤ c) (h : c < 128) : Go.Lib.indexByte [36, 0] (IntKind.u8.wrap c).toNat.toUInt8 = runeI c := by
  obtain ⟨n, rfl⟩ := Int.eq_ofNat_of_zero_le h0
  have e : (IntKind.u8.wrap (n : Int)).toNat = n := by rw [wrap_u8]; omega
  rw [e]
  have h1 : ∀ m : Nat, m < 128 → Go.Lib.indexByte [36, 0] m.toUInt8 = runeI (m : Int) := by decide
  exact h1 n (by omega)
theorem dec2 {i : Nat} (h : i < 2) : (Utf8.decode ⟨([36, 0] : Str).toArray⟩ i).1 < 128 := by
  rcases (show i = 0 ∨ i = 1 by omega) with rfl | rfl <;> decide

theorem fn130 : FnOk Try.prog 130 8 [4] (bodyOf Try.f130) := ⟨Try.f130, Try.func130, by kernel_rfl, by decide, by kernel_rfl, by kernel_rfl⟩
theorem s130 (s : Str) (c : Int) : PSpec Try.prog 130 [.d (.str s), .d (.int .u8 c)] (.d (.int .i64 (Go.Lib.indexByte s c.toNat.toUInt8))) := by
 refine PSpec.of fn130 (by simp) fun o nk => ?_
 refine wr ?_
 refine ua ?_
 refine u_nil ?_
 refine wr ?_
 refine um ?_
 refine um ?_
 refine u_step (o_pcall (s136 _ _) rfl ?_)
 refine ua ?_
 refine u_nil ?_
 refine WP.ret ?_
 refine ret_ok rfl ?_ (by omega) (fun _ _ => rfl)
 -- ret 1
 rfl

theorem fn131 : FnOk Try.prog 131 17 [2] (bodyOf Try.f131) := ⟨Try.f131, Try.func131, by kernel_rfl, by decide, by kernel_rfl, by kernel_rfl⟩
theorem s131 (c : Int) : PSpec Try.prog 131 [.d (.int .i32 c)] (.d (.bool (validR c))) := by
 refine PSpec.of fn131 (by simp) fun o nk => ?_
 refine wr ?_
 refine ua ?_
 refine u_nil ?_
 refine WP.seq fun K2 hK2 => ?_
 refine WP.block ?_
 refine wr ?_
 refine um ?_
 refine ub ?_
 refine um ?_
 apply gT
 · rfl
 · intro hg
   exact pm
 apply gT
 · rfl
 · intro hg; try simp only [hg, ct]; try simp only [hg, ct, Bt]
   exact pb
 refine uA ?_
 refine ua ?_
 refine u_nil ?_
 refine wc (fun hc4 => ?_) (fun hc4 => ?_) <;> try simp only [Q0, Q1, Q2, Q3, Q4, Q5, Q6, Q7, Q8, ge_iff_le, gt_iff_lt] at hc4
 ·
  refine wr ?_
  refine ua ?_
  refine u_nil ?_
  refine WP.ret ?_
  refine ret_ok rfl ?_ (by omega) (fun _ _ => rfl)
  -- ret 1
  refine congrArg D.bool ?_
  simp only [validR]
  grind
 ·
  refine wr ?_
  refine um ?_
  refine ub ?_
  refine um ?_
  apply gT
  · rfl
  · intro hg
    exact pm
  apply gT
  · rfl
  · intro hg; try simp only [hg, ct]; try simp only [hg, ct, Bt]
    exact pb
  refine uA ?_
  refine ua ?_
  refine u_nil ?_
  refine wc (fun hc7 => ?_) (fun hc7 => ?_) <;> try simp only [Q0, Q1, Q2, Q3, Q4, Q5, Q6, Q7, Q8, ge_iff_le, gt_iff_lt] at hc7
  ·
   refine wr ?_
   refine ua ?_
   refine u_nil ?_
   refine WP.ret ?_
   refine ret_ok rfl ?_ (by omega) (fun _ _ => rfl)
   -- ret 2
   refine congrArg D.bool ?_
   simp only [validR]
   grind
  ·
   refine WP.skip ?_
   refine hK2 _ ?_
   refine wr ?_
   refine ua ?_
   refine u_nil ?_
   refine WP.ret ?_
   refine ret_ok rfl ?_ (by omega) (fun _ _ => rfl)
   -- ret 3
   refine congrArg D.bool ?_
   simp only [validR]
   grind

theorem fn120 : FnOk Try.prog 120 5 [2] (bodyOf Try.f120) := ⟨Try.f120, Try.func120, by kernel_rfl, by decide, by kernel_rfl, by kernel_rfl⟩
theorem s120 (n : Int) : PSpec Try.prog 120 [.d (.int .i64 n)] (.d (.bool (decide (8 < n)))) := by
 refine PSpec.of fn120 (by simp) fun o nk => ?_
 refine wr ?_
 refine ua ?_
 refine u_nil ?_
 refine wr ?_
 refine um ?_
 refine ub ?_
 refine ua ?_
 refine u_nil ?_
 refine WP.ret ?_
 refine ret_ok rfl ?_ (by omega) (fun _ _ => rfl)
 -- ret 1
 rfl

theorem fn121 : FnOkC Try.prog 121 21 [.cell 2 128, .tmp 3] (bodyOf Try.f121) := ⟨Try.f121, Try.func121, by kernel_rfl, by decide, by kernel_rfl, by kernel_rfl⟩
theorem s121  : PSpec Try.prog 121 [.d (.str [36, 0])] (.tup (([.agg (setA 2), .bool true]).map .d)) := by
 refine PSpec.of2C tabOk fn121 (by simp) fun o nk => ?_
 refine wr ?_
 refine u_step (g_alloc th128 rfl fun o2 hb2 hk2 => ?_)
 refine ua ?_
 refine u_nil ?_
 refine WP.seq fun K3 hK3 => ?_
 refine wr ?_
 refine ua ?_
 refine u_nil ?_
 refine WP.block ?_
 refine WP.loopL (ι := Nat × (Nat → Option AO)) (fun ⟨i, o2⟩ => ⟨al [(0, .d (.str [36, 0])), (2, .loc nk 0), (4, .d (.int .i64 i))], o2, (nk + 1)⟩) (fun ⟨i, o2⟩ => i ≤ 2 ∧ o2 nk = some (.box ((setA i).map .d)) ∧ ∀ t, t < nk → o2 t = o t) (fun ⟨i, o2⟩ => 2 - i) (fun ⟨i, o2⟩ hA => ?_) ⟨0, o2⟩ ?_ ?_
 ·
  obtain ⟨hle, hob, hfr⟩ := hA
  refine WP.seq fun K5 hK5 => ?_
  refine wr ?_
  refine um ?_
  refine um ?_
  refine u_step (o_len_str rfl th9 rfl ?_)
  refine ub ?_
  refine u_nil ?_
  refine wc (fun hc7 => ?_) (fun hc7 => ?_) <;> try simp only [Q0, Q1, Q2, Q3, Q4, Q5, Q6, Q7, Q8, ge_iff_le, gt_iff_lt] at hc7
  ·
   have hi : i = 0 ∨ i = 1 := by simp at hc7; omega
   refine WP.skip ?_
   refine hK5 _ ?_
   refine WP.seq fun K8 hK8 => ?_
   refine WP.block ?_
   refine wr ?_
   refine um ?_
   refine um ?_
   refine u_step (o_ix rfl rfl th9 rfl ?_ ?_ ?_)
   · omega
   · rcases hi with rfl | rfl <;> decide
   refine ua ?_
   refine u_nil ?_
   refine WP.seq fun K10 hK10 => ?_
   refine wr ?_
   refine um ?_
   refine ub ?_
   refine u_nil ?_
   refine wc (fun hc12 => ?_) (fun hc12 => ?_) <;> try simp only [Q0, Q1, Q2, Q3, Q4, Q5, Q6, Q7, Q8, ge_iff_le, gt_iff_lt] at hc12
   ·
    exfalso
    rcases hi with rfl | rfl <;> exact absurd hc12 (by decide)
   ·
    refine WP.skip ?_
    refine hK10 _ ?_
    refine WP.reg tabOk rfl ?_
    refine um ?_
    refine u_step (o_ia_ar rfl rfl th128 rfl th4 hob ?_ ?_ ?_)
    · rcases hi with rfl | rfl <;> decide
    · rcases hi with rfl | rfl <;> decide
    refine u_step0 (g_st rfl rfl rfl th4 rfl hob (by rcases hi with rfl | rfl <;> decide) fun o13 hb13 hk13 => ?_)
    refine u_nil ?_
    refine hK8 _ ?_
    refine WP.reg tabOk rfl ?_
    refine um ?_
    refine ub ?_
    refine ua ?_
    refine u_nil ?_
    -- back
    refine ⟨⟨i + 1, o13⟩, ⟨by omega, ?_, (fun t ht => (hk13 t (by omega)).trans ((hfr t (by omega))))⟩, by simp only; omega, ?_⟩
    · rcases hi with rfl | rfl
      · exact (hb13).trans (by kernel_rfl)
      · exact (hb13).trans (by kernel_rfl)
    · refine Le.al ?_
      simp only [List.forall_mem_cons]
      exact ⟨rfl, rfl, cnt (by omega), by simp⟩
  ·
   have hi2 : i = 2 := by simp at hc7; omega
   refine WP.exit ?_
   refine hK3 _ ?_
   subst hi2
   refine wr ?_
   refine ug th128 hob ?_
   refine u_step0 (g_sta rfl rfl th128 rfl hob (by simp [setA]) fun o15 hb15 hk15 => ?_)
   refine ua ?_
   refine u_nil ?_
   refine WP.ret ?_
   refine retC_ok (resis_agg rfl th128 rfl hb15 rfl rfl rfl) rfl ?_ ?_ (by omega) (fun t ht => (hk15 t (by omega)).trans ((hfr t (by omega))))
   · rfl
   · rfl
 ·
  exact ⟨by omega, hb2, (fun t ht => (hk2 t (by omega)))⟩
 ·
  refine Le.al ?_
  simp only [List.forall_mem_cons]
  exact ⟨rfl, rfl, rfl, by simp⟩

end Go.Proofs.Ytpkcbdhjnnnkbaa.Abs

set_option linter.unusedVariables false
set_option linter.unusedSimpArgs false
set_option maxRecDepth 10000
namespace Go.Proofs.Ytpkcbdhjnnnkbaa.Abs
open Go
theorem o_nc {P : Program} {Θ : Tab} {K : SV → (Nat → Option AO) → Nat → Prop} {sl : Nat → SV} {o : Nat → Option AO} {nk : Nat} {x : Operand} {q g : Nat} {cs : List SV} (hx : ev sl x = .loc q g) (ho : o q = some (.box cs)) (h : K (.loc q g) o nk) : vOp P Θ (.nilCheck x) ⟨sl, o, nk⟩ K := by
  refine Or.inl ⟨?_, ?_⟩
  · show ncOp o (ev sl x)
    rw [hx]; exact ⟨cs, ho⟩
  · show K (ev sl x) o nk
    rw [hx]; exact h
theorem setA_at2 {c : Nat} (h : c < 256) : ((setA 2).map SV.d)[0 + ((c : Int)).toNat * 1]? = some (.d (.bool (decide (c = 36 ∨ c = 0)))) := by
  rw [Int.toNat_natCast, Nat.zero_add, Nat.mul_one]; exact setA_at h
theorem dec_bd (s : ByteArray) (i : Nat) : (Utf8.decode s i).1 ≤ 1114111 := by
  have hb : ∀ k, (s.get! (i + k)).toNat < 256 := fun k => (s.get! (i + k)).toNat_lt
  have h0 := hb 0; have h1 := hb 1; have h2 := hb 2; have h3 := hb 3
  have hv : ∀ c : Nat, Utf8.valid (c : Int) = true → c ≤ 1114111 := fun c h => by
    simp only [Utf8.valid, Bool.or_eq_true, Bool.and_eq_true, decide_eq_true_eq] at h
    omega
  simp only [Utf8.decode]
  repeat' split
  all_goals simp only [Utf8.runeError, Bool.and_eq_true, decide_eq_true_eq] at *
  all_goals first
    | omega
    | (rename_i h; exact hv _ h.2)
theorem dec_skip (s : ByteArray) (i : Nat) (h : i < s.size) : 1 ≤ (Utf8.decode s i).2 ∧ i + (Utf8.decode s i).2 ≤ s.size ∧ ∀ k, 1 ≤ k → k < (Utf8.decode s i).2 → 128 ≤ (s.get! (i + k)).toNat := by
  simp only [Utf8.decode]
  repeat' split
  all_goals simp only [Bool.and_eq_true, decide_eq_true_eq, beq_iff_eq] at *
  all_goals refine ⟨by omega, by omega, fun k hk1 hk2 => ?_⟩
  all_goals
    by_cases e1 : k = 1
    · subst e1; omega
    · by_cases e2 : k = 2
      · subst e2; omega
      · by_cases e3 : k = 3
        · subst e3; omega
        · omega
/-- A sign that no name has. -/
def badC (c : UInt8) : Bool := decide (c = 36 ∨ c = 0)
theorem badC_nat (c : UInt8) : badC c = decide (c.toNat = 36 ∨ c.toNat = 0) := by
  unfold badC
  rw [Bool.eq_iff_iff]
  simp only [decide_eq_true_eq]
  constructor
  · rintro (rfl | rfl)
    · exact .inl rfl
    · exact .inr rfl
  · rintro (h | h)
    · exact .inl ((toNat_eq (n := 36) (by omega)).1 (by omega))
    · exact .inr ((toNat_eq (n := 0) (by omega)).1 (by omega))
def anyI (s : Str) : Int := firstI badC s
theorem get_bang {s : Str} {j : Nat} (h : j < s.length) : ((⟨s.toArray⟩ : ByteArray).get! j) = s[j]'h := by
  show (s.toArray[j]!) = _
  simp [h]
theorem dec_at {s : Str} {i : Nat} (h : i < s.length) : 1 ≤ (Utf8.decode ⟨s.toArray⟩ i).2 ∧ i + (Utf8.decode ⟨s.toArray⟩ i).2 ≤ s.length ∧
    (∀ (j : Nat) (hj : j < s.length), i < j → j < i + (Utf8.decode ⟨s.toArray⟩ i).2 → badC (s[j]'hj) = false) ∧ decide (0 ≤ runeI ((Utf8.decode ⟨s.toArray⟩ i).1 : Nat)) = badC (s[i]'h) := by
  have hs : i < (⟨s.toArray⟩ : ByteArray).size := by simpa [ByteArray.size] using h
  obtain ⟨h1, h2, h3⟩ := dec_skip ⟨s.toArray⟩ i hs
  have hsz : (⟨s.toArray⟩ : ByteArray).size = s.length := by simp [ByteArray.size]
  refine ⟨h1, by omega, fun j hj hij hj2 => ?_, ?_⟩
  · have := h3 (j - i) (by omega) (by omega)
    rw [show i + (j - i) = j by omega, get_bang hj] at this
    rw [badC_nat, decide_eq_false_iff_not]
    omega
  · have hg : (⟨s.toArray⟩ : ByteArray)[i]'hs = s[i]'h := rfl
    rw [badC_nat]
    by_cases ha : (s[i]'h).toNat < 128
    · have := decode_ascii ⟨s.toArray⟩ i hs (by rw [hg]; exact ha)
      rw [this, hg]
      unfold runeI
      rw [Bool.eq_iff_iff]
      simp only [decide_eq_true_eq]
      split
      · omega
      · split <;> omega
    · have := (decode_high ⟨s.toArray⟩ i hs (by rw [hg]; omega)).1
      unfold runeI
      rw [Bool.eq_iff_iff]
      simp only [decide_eq_true_eq]
      rw [if_neg (by omega), if_neg (by omega)]
      omega

theorem fn122 : FnOk Try.prog 122 10 [4] (bodyOf Try.f122) := ⟨Try.f122, Try.func122, by kernel_rfl, by decide, by kernel_rfl, by kernel_rfl⟩
theorem s122 {o : Nat → Option AO} {nk k c : Nat} (hkc : o k = some (.box ((setA 2).map .d))) (hkl : k < nk) (hc : c < 256) : Spec Try.prog 122 [.loc k 0, .d (.int .u8 (c : Int))] o nk (fun r' o' nk' => r' = .d (.bool (decide (c = 36 ∨ c = 0))) ∧ o' = o ∧ nk' = nk) := by
 refine Spec.pure (fun _ => trivial) rfl (Spec.of_body fn122 (by simp) ?_)
 refine wr ?_
 refine ua ?_
 refine u_nil ?_
 refine wr ?_
 refine u_step (o_moveV (v := .loc _ _) rfl ?_)
 refine um ?_
 refine u_step (o_nc rfl hkc ?_)
 refine u_step (o_ia_ar rfl rfl th128 rfl th4 hkc ?_ ?_ ?_)
 · omega
 · omega
 refine u_step (o_ld_loc rfl th4 rfl hkc (setA_at2 hc) ?_)
 refine ua ?_
 refine u_nil ?_
 refine WP.ret ?_
 refine ret_ok rfl ?_ (by omega) (fun _ _ => rfl)
 -- ret 1
 rfl

theorem fn119 : FnOk Try.prog 119 187 [4] (bodyOf Try.f119) := ⟨Try.f119, Try.func119, by kernel_rfl, by decide, by kernel_rfl, by kernel_rfl⟩
theorem s119 (c : Int) (h1 : 0 ≤ c) (h2 : c ≤ 1114111) : PSpec Try.prog 119 [.d (.str [36, 0]), .d (.int .i32 c)] (.d (.int .i64 (runeI c))) := by
 refine PSpec.of fn119 (by simp) fun o nk => ?_
 refine wr ?_
 refine ua ?_
 refine u_nil ?_
 refine WP.block ?_
 refine wr ?_
 refine um ?_
 refine ub ?_
 refine um ?_
 apply gT
 · rfl
 · intro hg
   exact pm
 apply gT
 · rfl
 · intro hg; try simp only [hg, ct]; try simp only [hg, ct, Bt]
   exact pb
 refine uA ?_
 refine ua ?_
 refine u_nil ?_
 refine wc (fun hc3 => ?_) (fun hc3 => ?_) <;> try simp only [Q0, Q1, Q2, Q3, Q4, Q5, Q6, Q7, Q8, ge_iff_le, gt_iff_lt] at hc3
 ·
  have h128 : c < 128 := by simp at hc3; omega
  refine wr ?_
  refine um ?_
  refine um ?_
  refine uc th21 th5 ?_
  refine u_step (o_pcall (s130 _ _) rfl ?_)
  refine ua ?_
  refine u_nil ?_
  refine WP.ret ?_
  refine ret_ok rfl ?_ (by omega) (fun _ _ => rfl)
  -- ret 1
  skip
  refine congrArg (D.int .i64) ?_
  exact idx2 h1 h128
 ·
  have hc2 : 128 ≤ c := by have := hc3; simp at this; omega
  refine wr ?_
  refine um ?_
  refine ub ?_
  refine ua ?_
  refine u_nil ?_
  refine wc (fun hc6 => ?_) (fun hc6 => ?_) <;> try simp only [Q0, Q1, Q2, Q3, Q4, Q5, Q6, Q7, Q8, ge_iff_le, gt_iff_lt] at hc6
  ·
   have hce : c = 65533 := by simpa using hc6
   refine WP.seq fun K7 hK7 => ?_
   refine wr ?_
   refine um ?_
   refine u_step (g_range rfl th9 rfl fun o9 hb9 hk9 => ?_)
   refine u_nil ?_
   refine WP.block ?_
   refine WP.loopL (ι := Nat × (Nat → Option AO)) (fun ⟨i, o2⟩ => ⟨al [(175, .raw nk)], o2, (nk + 1)⟩) (fun ⟨i, o2⟩ => i ≤ 2 ∧ o2 nk = some (.raw (itOb [36, 0] i)) ∧ ∀ t, t < nk → o2 t = o t) (fun ⟨i, o2⟩ => 2 - i) (fun ⟨i, o2⟩ hA => ?_) ⟨0, o9⟩ ?_ ?_
   ·
    obtain ⟨hle, hob, hfr⟩ := hA
    refine wr ?_
    refine u_step (g_next rfl hob (fun hp11 o11 hb11 hk11 => ?_) (fun hp11 => ?_))
    ·
     have hi : i = 0 ∨ i = 1 := by have := hp11; simp at this; omega
     have hdd := dec2 (i := i) (by omega)
     refine ue ?_
     refine u_nil ?_
     refine WP.seq fun K12 hK12 => ?_
     refine WP.cond rfl (fun hc13 => ?_) (fun hc13 => by cases hc13)
     refine WP.skip ?_
     refine hK12 _ ?_
     refine WP.block ?_
     refine wr ?_
     refine ue ?_
     refine ue ?_
     refine ua ?_
     refine ua ?_
     refine u_nil ?_
     refine wr ?_
     refine um ?_
     refine ub ?_
     refine u_nil ?_
     refine wc (fun hc16 => ?_) (fun hc16 => ?_) <;> try simp only [Q0, Q1, Q2, Q3, Q4, Q5, Q6, Q7, Q8, ge_iff_le, gt_iff_lt] at hc16
     ·
      refine wr ?_
      refine um ?_
      refine ua ?_
      refine u_nil ?_
      refine WP.ret ?_
      refine ret_ok rfl ?_ (by omega) (fun t ht => (hk11 t (by omega)).trans ((hfr t (by omega))))
      -- ret 2
      exfalso
      have hq := hc16
      simp at hq
      omega
     ·
      refine WP.skip ?_
      -- back
      refine ⟨⟨i + 1, o11⟩, ⟨by omega, ?_, (fun t ht => (hk11 t (by omega)).trans ((hfr t (by omega))))⟩, by simp only; omega, ?_⟩
      · have hft := hb11
        rcases hi with rfl | rfl
        · exact hft
        · exact hft
      · refine Le.al ?_
        simp only [List.forall_mem_cons]
        exact ⟨rfl, by simp⟩
    ·
     refine ue ?_
     refine u_nil ?_
     refine WP.seq fun K18 hK18 => ?_
     refine WP.cond rfl (fun hc19 => by cases hc19) (fun hc19 => ?_)
     refine WP.exit ?_
     refine hK7 _ ?_
     refine wr ?_
     refine ua ?_
     refine u_nil ?_
     refine WP.ret ?_
     refine ret_ok rfl ?_ (by omega) (fun t ht => (hfr t (by omega)))
     -- ret 3
     refine congrArg (D.int .i64) ?_
     rw [hce]; rfl
   ·
    exact ⟨by omega, hb9, (fun t ht => (hk9 t (by omega)))⟩
   ·
    refine Le.al ?_
    simp only [List.forall_mem_cons]
    exact ⟨rfl, by simp⟩
  ·
   refine wr ?_
   refine um ?_
   refine u_step (o_pcall (s131 _) rfl ?_)
   refine uN ?_
   refine ua ?_
   refine u_nil ?_
   refine wc (fun hc22 => ?_) (fun hc22 => ?_) <;> try simp only [Q0, Q1, Q2, Q3, Q4, Q5, Q6, Q7, Q8, ge_iff_le, gt_iff_lt] at hc22
   ·
    refine wr ?_
    refine ua ?_
    refine u_nil ?_
    refine WP.ret ?_
    refine ret_ok rfl ?_ (by omega) (fun _ _ => rfl)
    -- ret 4
    refine congrArg (D.int .i64) ?_
    unfold runeI
    rw [if_neg (by omega), if_neg (by omega)]
   ·
    obtain ⟨m, hm, hm1, hml⟩ := enc_last hc2 (by simpa using hc22)
    refine WP.scope ?_
    refine wr ?_
    refine um ?_
    refine u_step (o_cv_rune rfl th21 rfl th9 rfl ?_)
    refine ua ?_
    refine u_nil ?_
    refine wr ?_
    refine um ?_
    refine u_step (o_len_str rfl th9 rfl ?_)
    refine ub ?_
    refine ua ?_
    refine u_nil ?_
    refine wr ?_
    refine um ?_
    refine ua ?_
    refine u_nil ?_
    refine wr ?_
    refine ua ?_
    refine u_nil ?_
    refine WP.seq fun K28 hK28 => ?_
    refine WP.block ?_
    refine WP.loopL (ι := Unit) (fun _u => ⟨al [(0, .d (.str [36, 0])), (7, .d (.str (Utf8.encode c).data.toList)), (8, .d (.int .i64 (m : Nat))), (9, .d (.int .i64 (m : Nat)))], o, nk⟩) (fun _u => True) (fun _u => 0) (fun _u hA => ?_) () ?_ ?_
    ·
     refine WP.seq fun K29 hK29 => ?_
     refine wr ?_
     refine um ?_
     refine um ?_
     refine u_step (o_len_str rfl th9 rfl ?_)
     refine ub ?_
     refine u_nil ?_
     refine wc (fun hc31 => ?_) (fun hc31 => ?_) <;> try simp only [Q0, Q1, Q2, Q3, Q4, Q5, Q6, Q7, Q8, ge_iff_le, gt_iff_lt] at hc31
     ·
      obtain rfl : m = 1 := by simp at hc31; omega
      refine WP.skip ?_
      refine hK29 _ ?_
      refine WP.block ?_
      refine WP.scope ?_
      refine WP.seq fun K32 hK32 => ?_
      refine wd ?_
      refine dm ?_
      refine dm ?_
      refine d_step (o_ix rfl rfl th9 rfl (by decide) (by decide) ⟨rfl, rfl, rfl⟩) ?_
      refine dm ?_
      refine dm ?_
      refine d_step (o_ix rfl rfl th9 rfl (by decide) (by rw [hm]; decide) ⟨rfl, rfl, rfl⟩) ?_
      refine db ?_
      refine d_nil ?_
      refine wc (fun hc34 => ?_) (fun hc34 => ?_) <;> try simp only [Q0, Q1, Q2, Q3, Q4, Q5, Q6, Q7, Q8, ge_iff_le, gt_iff_lt] at hc34
      ·
       refine wd ?_
       refine dm ?_
       refine dm ?_
       refine db ?_
       refine d_step (o_sl_str (m := 2) (p := 2) rfl th9 rfl rfl rfl ⟨rfl, rfl, rfl⟩) ?_
       refine dm ?_
       refine dm ?_
       refine d_step (o_ix rfl rfl th9 rfl (by decide) (by rw [hm]; decide) ⟨rfl, rfl, rfl⟩) ?_
       refine d_step (o_pcall (s130 _ _) rfl ⟨rfl, rfl, rfl⟩) ?_
       refine da ?_
       refine d_nil ?_
       refine WP.seq fun K36 hK36 => ?_
       refine wr ?_
       refine um ?_
       refine ub ?_
       refine u_nil ?_
       refine wc (fun hc38 => ?_) (fun hc38 => ?_) <;> try simp only [Q0, Q1, Q2, Q3, Q4, Q5, Q6, Q7, Q8, ge_iff_le, gt_iff_lt] at hc38
       ·
        refine wr ?_
        refine ua ?_
        refine u_nil ?_
        refine WP.ret ?_
        refine ret_ok rfl ?_ (by omega) (fun _ _ => rfl)
        -- ret 5
        refine congrArg (D.int .i64) ?_
        unfold runeI
        rw [if_neg (by omega), if_neg (by omega)]
       ·
        exfalso
        have hq := hc38
        simp [Go.Lib.indexByte] at hq
      ·
       exfalso
       have hq := hc34
       simp at hq
       have h0 : bAt [36, 0] 1 = 0 := rfl
       omega
     ·
      refine WP.exit ?_
      refine hK28 _ ?_
      refine WP.seq fun K40 hK40 => ?_
      refine wr ?_
      refine ua ?_
      refine u_nil ?_
      refine WP.ret ?_
      refine ret_ok rfl ?_ (by omega) (fun _ _ => rfl)
      -- ret 6
      refine congrArg (D.int .i64) ?_
      unfold runeI
      rw [if_neg (by omega), if_neg (by omega)]
    ·
     trivial
    ·
     have hw : IntKind.i64.wrap (((Utf8.encode c).data.toList.length : Int) - 1) = (m : Int) := by rw [hm, wrap_i64 (by omega) (by have := encode_len4 c; omega)]; omega
     refine Le.al ?_
     simp only [List.forall_mem_cons]
     exact ⟨rfl, rfl, (by rw [← hw]; rfl), (by rw [← hw]; rfl), by simp⟩

end Go.Proofs.Ytpkcbdhjnnnkbaa.Abs

set_option linter.unusedVariables false
set_option linter.unusedSimpArgs false
set_option maxRecDepth 10000
namespace Go.Proofs.Ytpkcbdhjnnnkbaa.Abs
open Go
theorem any_bad (s : Str) : s.any badC = decide ((36 : UInt8) ∈ s ∨ (0 : UInt8) ∈ s) := by
  rw [Bool.eq_iff_iff]
  simp only [List.any_eq_true, decide_eq_true_eq, badC]
  constructor
  · rintro ⟨x, hx, rfl | rfl⟩
    · exact .inl hx
    · exact .inr hx
  · rintro (h | h)
    · exact ⟨_, h, .inl rfl⟩
    · exact ⟨_, h, .inr rfl⟩
theorem badC_get {s : Str} {i : Nat} (h : i < s.length) : decide ((s[((i : Int)).toNat]?.getD 0).toNat = 36 ∨ (s[((i : Int)).toNat]?.getD 0).toNat = 0) = badC (s[i]'h) := by
  rw [badC_nat]; simp [h]

theorem fn100 : FnOk Try.prog 100 55 [4] (bodyOf Try.f100) := ⟨Try.f100, Try.func100, by kernel_rfl, by decide, by kernel_rfl, by kernel_rfl⟩
theorem s100 (s : Str) : PSpec Try.prog 100 [.d (.str s), .d (.str [36, 0])] (.d (.int .i64 (anyI s))) := by
 refine PSpec.bd fun hbd => ?_
 have hx : s.length ≤ 9223372036854775807 := hbd.1
 refine PSpec.of fn100 (by simp) fun o nk => ?_
 refine wr ?_
 refine ua ?_
 refine u_nil ?_
 refine WP.seq fun K2 hK2 => ?_
 refine wr ?_
 refine um ?_
 refine u_step (o_bin_str rfl (show _ = SV.d (.str []) from rfl) rfl ?_)
 refine u_nil ?_
 refine wc (fun hc4 => ?_) (fun hc4 => ?_) <;> try simp only [Q0, Q1, Q2, Q3, Q4, Q5, Q6, Q7, Q8, ge_iff_le, gt_iff_lt] at hc4
 ·
  exact absurd hc4 (by decide)
 ·
  refine WP.skip ?_
  refine hK2 _ ?_
  refine WP.seq fun K5 hK5 => ?_
  refine wr ?_
  refine um ?_
  refine u_step (o_len_str rfl th9 rfl ?_)
  refine ub ?_
  refine u_nil ?_
  refine wc (fun hc7 => ?_) (fun hc7 => ?_) <;> try simp only [Q0, Q1, Q2, Q3, Q4, Q5, Q6, Q7, Q8, ge_iff_le, gt_iff_lt] at hc7
  ·
   exact absurd hc7 (by decide)
  ·
   refine WP.skip ?_
   refine hK5 _ ?_
   refine WP.seq fun K8 hK8 => ?_
   refine wr ?_
   refine um ?_
   refine u_step (o_len_str rfl th9 rfl ?_)
   refine u_step (o_pcall (s120 _) rfl ?_)
   refine u_nil ?_
   refine wc (fun hc10 => ?_) (fun hc10 => ?_) <;> try simp only [Q0, Q1, Q2, Q3, Q4, Q5, Q6, Q7, Q8, ge_iff_le, gt_iff_lt] at hc10
   ·
    refine wr ?_
    refine um ?_
    refine u_step (o_pcall (s121) rfl ?_)
    refine u_step (o_moveV (v := .tup _) rfl ?_)
    refine ue ?_
    refine ue ?_
    refine u_step (g_alloc th128 rfl fun o12 hb12 hk12 => ?_)
    refine u_step0 (g_sta rfl rfl th128 rfl hb12 (by simp [setA]) fun o13 hb13 hk13 => ?_)
    have hb13 : _ = some (AO.box ((setA 2).map .d)) := (hb13).trans (by simp [setA])
    refine ua ?_
    refine u_nil ?_
    refine wr ?_
    refine um ?_
    refine u_nil ?_
    refine wc (fun hc15 => ?_) (fun hc15 => ?_) <;> try simp only [Q0, Q1, Q2, Q3, Q4, Q5, Q6, Q7, Q8, ge_iff_le, gt_iff_lt] at hc15
    ·
     refine WP.seq fun K16 hK16 => ?_
     refine wr ?_
     refine ua ?_
     refine u_nil ?_
     refine WP.block ?_
     refine WP.loopL (ι := Nat) (fun i => ⟨al [(0, .d (.str s)), (6, .loc nk 0), (8, .d (.int .i64 i))], o13, (nk + 1)⟩) (fun i => i ≤ s.length ∧ ∀ (j : Nat) (hj : j < s.length), j < i → badC (s[j]'hj) = false) (fun i => s.length - i) (fun i hA => ?_) 0 ?_ ?_
     ·
      obtain ⟨hle_i, hin_i⟩ := hA
      refine WP.seq fun K18 hK18 => ?_
      refine wr ?_
      refine um ?_
      refine um ?_
      refine u_step (o_len_str rfl th9 rfl ?_)
      refine ub ?_
      refine u_nil ?_
      refine wc (fun hc20 => ?_) (fun hc20 => ?_) <;> try simp only [Q0, Q1, Q2, Q3, Q4, Q5, Q6, Q7, Q8, ge_iff_le, gt_iff_lt] at hc20
      ·
       refine WP.skip ?_
       refine hK18 _ ?_
       refine WP.seq fun K21 hK21 => ?_
       refine WP.block ?_
       refine wr ?_
       refine um ?_
       refine um ?_
       refine u_step (o_ix rfl rfl th9 rfl ?_ ?_ ?_)
       · omega
       · simp; omega
       refine u_step (o_scall (s122 (c := (s[((i : Int)).toNat]?.getD 0).toNat) hb13 (by omega) (UInt8.toNat_lt _)) rfl ?_)
       refine u_nil ?_
       refine wc (fun hc23 => ?_) (fun hc23 => ?_) <;> try simp only [Q0, Q1, Q2, Q3, Q4, Q5, Q6, Q7, Q8, ge_iff_le, gt_iff_lt] at hc23
       ·
        refine wr ?_
        refine um ?_
        refine ua ?_
        refine u_nil ?_
        refine WP.ret ?_
        refine ret_ok rfl ?_ (by omega) (fun t ht => (hk13 t (by omega)).trans ((hk12 t (by omega))))
        -- ret 1
        refine congrArg (D.int .i64) ?_
        exact (firstI_at (p := badC) (xs := s) (i := i) (by omega) (by rw [← badC_get (by omega)]; exact decide_eq_true hc23) hin_i).symm
       ·
        refine WP.skip ?_
        refine hK21 _ ?_
        refine WP.reg tabOk rfl ?_
        refine um ?_
        refine ub ?_
        refine ua ?_
        refine u_nil ?_
        -- back
        refine ⟨i + 1, ⟨by omega, ?_⟩, by omega, ?_⟩
        · intro j hj h1
          by_cases h2 : j = i
          · subst h2; rw [← badC_get (by omega)]; exact decide_eq_false hc23
          · exact hin_i j hj (by omega)
        · refine Le.al ?_
          simp only [List.forall_mem_cons]
          exact ⟨rfl, rfl, cnt (by omega), by simp⟩
      ·
       refine WP.exit ?_
       refine hK16 _ ?_
       refine wr ?_
       refine ua ?_
       refine u_nil ?_
       refine WP.ret ?_
       refine ret_ok rfl ?_ (by omega) (fun t ht => (hk13 t (by omega)).trans ((hk12 t (by omega))))
       -- ret 2
       refine congrArg (D.int .i64) ?_
       exact (firstI_none (p := badC) (xs := s) fun j hj => hin_i j hj (by omega)).symm
     ·
      simp
     ·
      refine Le.al ?_
      simp only [List.forall_mem_cons]
      exact ⟨rfl, rfl, rfl, by simp⟩
    ·
     cases hc15
   ·
    refine WP.skip ?_
    refine hK8 _ ?_
    refine WP.seq fun K26 hK26 => ?_
    refine wr ?_
    refine um ?_
    refine u_step (g_range rfl th9 rfl fun o28 hb28 hk28 => ?_)
    refine u_nil ?_
    refine WP.block ?_
    refine WP.loopL (ι := Nat × (Nat → Option AO)) (fun ⟨i, o2⟩ => ⟨al [(0, .d (.str s)), (1, .d (.str [36, 0])), (45, .raw nk)], o2, (nk + 1)⟩) (fun ⟨i, o2⟩ => i ≤ s.length ∧ o2 nk = some (.raw (itOb s i)) ∧ (∀ t, t < nk → o2 t = o t) ∧ ∀ (j : Nat) (hj : j < s.length), j < i → badC (s[j]'hj) = false) (fun ⟨i, o2⟩ => s.length - i) (fun ⟨i, o2⟩ hA => ?_) ⟨0, o28⟩ ?_ ?_
    ·
     obtain ⟨hle, hob, hfr, hin⟩ := hA
     refine wr ?_
     refine u_step (g_next rfl hob (fun hp30 o30 hb30 hk30 => ?_) (fun hp30 => ?_))
     ·
      have hlt : i < s.length := hp30
      obtain ⟨hd1, hd2, hd3, hd4⟩ := dec_at hlt
      refine ue ?_
      refine u_nil ?_
      refine WP.seq fun K31 hK31 => ?_
      refine WP.cond rfl (fun hc32 => ?_) (fun hc32 => by cases hc32)
      refine WP.skip ?_
      refine hK31 _ ?_
      refine WP.block ?_
      refine wr ?_
      refine ue ?_
      refine ue ?_
      refine ua ?_
      refine ua ?_
      refine u_nil ?_
      refine wr ?_
      refine um ?_
      refine um ?_
      refine u_step (o_pcall (s119 _ (by omega) (by have := dec_bd ⟨s.toArray⟩ i; omega)) rfl ?_)
      refine ub ?_
      refine u_nil ?_
      refine wc (fun hc35 => ?_) (fun hc35 => ?_) <;> try simp only [Q0, Q1, Q2, Q3, Q4, Q5, Q6, Q7, Q8, ge_iff_le, gt_iff_lt] at hc35
      ·
       refine wr ?_
       refine um ?_
       refine ua ?_
       refine u_nil ?_
       refine WP.ret ?_
       refine ret_ok rfl ?_ (by omega) (fun t ht => (hk30 t (by omega)).trans ((hfr t (by omega))))
       -- ret 3
       refine congrArg (D.int .i64) ?_
       exact (firstI_at (p := badC) (xs := s) (i := i) (by omega) (by rw [← hd4]; exact decide_eq_true hc35) hin).symm
      ·
       refine WP.skip ?_
       -- back
       refine ⟨⟨i + _, o30⟩, ⟨by omega, hb30, (fun t ht => (hk30 t (by omega)).trans ((hfr t (by omega)))), ?_⟩, by simp only; omega, ?_⟩
       · intro j hj h1
         rcases Nat.lt_trichotomy j i with h2 | h2 | h2
         · exact hin j hj h2
         · subst h2; rw [← hd4]; exact decide_eq_false hc35
         · exact hd3 j hj h2 h1
       · refine Le.al ?_
         simp only [List.forall_mem_cons]
         exact ⟨rfl, rfl, rfl, by simp⟩
     ·
      refine ue ?_
      refine u_nil ?_
      refine WP.seq fun K37 hK37 => ?_
      refine WP.cond rfl (fun hc38 => by cases hc38) (fun hc38 => ?_)
      refine WP.exit ?_
      refine hK26 _ ?_
      refine wr ?_
      refine ua ?_
      refine u_nil ?_
      refine WP.ret ?_
      refine ret_ok rfl ?_ (by omega) (fun t ht => (hfr t (by omega)))
      -- ret 4
      refine congrArg (D.int .i64) ?_
      exact (firstI_none (p := badC) (xs := s) fun j hj => hin j hj (by omega)).symm
    ·
     exact ⟨by omega, hb28, (fun t ht => (hk28 t (by omega))), by simp⟩
    ·
     refine Le.al ?_
     simp only [List.forall_mem_cons]
     exact ⟨rfl, rfl, rfl, by simp⟩

theorem fn70 : FnOk Try.prog 70 9 [4] (bodyOf Try.f70) := ⟨Try.f70, Try.func70, by kernel_rfl, by decide, by kernel_rfl, by kernel_rfl⟩
theorem s70 (s : Str) : PSpec Try.prog 70 [.d (.str s), .d (.str [36, 0])] (.d (.bool (s.any badC))) := by
 refine PSpec.of fn70 (by simp) fun o nk => ?_
 refine wr ?_
 refine ua ?_
 refine u_nil ?_
 refine wr ?_
 refine um ?_
 refine um ?_
 refine u_step (o_pcall (s100 s) rfl ?_)
 refine ub ?_
 refine ua ?_
 refine u_nil ?_
 refine WP.ret ?_
 refine ret_ok rfl ?_ (by omega) (fun _ _ => rfl)
 -- ret 1
 rw [← firstI_nn]
 rfl

theorem fn39 : FnOk Try.prog 39 16 [2] (bodyOf Try.f39) := ⟨Try.f39, Try.func39, by kernel_rfl, by decide, by kernel_rfl, by kernel_rfl⟩
theorem s39 (s : Str) : PSpec Try.prog 39 [.d (.str s)] (.d (.bool (collV s))) := by
 refine PSpec.of fn39 (by simp) fun o nk => ?_
 refine wr ?_
 refine ua ?_
 refine u_nil ?_
 refine wr ?_
 refine um ?_
 refine u_step (o_len_str rfl th9 rfl ?_)
 refine ub ?_
 refine um ?_
 apply gT
 · rfl
 · intro hg
   exact pm
 apply gT
 · rfl
 · intro hg; try simp only [hg, ct]; try simp only [hg, ct, Bt]
   refine o_len_str rfl th9 rfl ⟨rfl, rfl, rfl⟩
 apply gT
 · rfl
 · intro hg; try simp only [hg, ct]; try simp only [hg, ct, Bt]
   exact pb
 refine uA ?_
 refine um ?_
 apply gT
 · rfl
 · intro hg
   exact pm
 apply gT
 · rfl
 · intro hg; try simp only [hg, ct]; try simp only [hg, ct, Bt]
   refine o_pcall (s70 s) rfl ⟨rfl, rfl, rfl⟩
 apply gT
 · rfl
 · intro hg; try simp only [hg, ct]; try simp only [hg, ct, Bt]
   exact pN
 refine uA ?_
 refine ua ?_
 refine u_nil ?_
 refine WP.ret ?_
 refine ret_ok rfl ?_ (by omega) (fun _ _ => rfl)
 -- ret 1
 refine congrArg D.bool ?_
 rw [any_bad, Bool.eq_iff_iff]
 simp only [collV, Bool.and_eq_true, decide_eq_true_eq, Bool.not_eq_true', decide_eq_false_iff_not, not_or]
 constructor
 · rintro ⟨⟨h1, h2⟩, h3, h4⟩; exact ⟨by omega, by omega, h3, h4⟩
 · rintro ⟨h1, h2, h3, h4⟩; exact ⟨⟨by omega, by omega⟩, h3, h4⟩

end Go.Proofs.Ytpkcbdhjnnnkbaa.Abs

set_option linter.unusedVariables false
set_option linter.unusedSimpArgs false
set_option maxRecDepth 10000
namespace Go.Proofs.Ytpkcbdhjnnnkbaa.Abs
open Go
def hasC (k : Int) : Bool := decide (2 ≤ k) && decide (k ≤ 7)
def hasT (k : Int) : Bool := decide (k = 7)
def hasI (k : Int) : Bool := decide (k = 2) || decide (k = 3) || decide (k = 4)
def hasD (k : Int) : Bool := decide (k = 2)
def hasS (k : Int) : Bool := decide (k = 3)
structure Bits (k : Int) : Prop where
  t1 : (bitsOf .and .i64 (fieldsV k) 2 != 0) = hasT k
  t0 : (bitsOf .and .i64 (fieldsV k) 2 == 0) = !hasT k
  c1 : (bitsOf .and .i64 (fieldsV k) 1 != 0) = hasC k
  c0 : (bitsOf .and .i64 (fieldsV k) 1 == 0) = !hasC k
  i1 : (bitsOf .and .i64 (fieldsV k) 4 != 0) = hasI k
  i0 : (bitsOf .and .i64 (fieldsV k) 4 == 0) = !hasI k
  d1 : (bitsOf .and .i64 (fieldsV k) 8 != 0) = hasD k
  d0 : (bitsOf .and .i64 (fieldsV k) 8 == 0) = !hasD k
  s1 : (bitsOf .and .i64 (fieldsV k) 16 != 0) = hasS k
  s0 : (bitsOf .and .i64 (fieldsV k) 16 == 0) = !hasS k
theorem bits_of {k : Int} (h : 1 ≤ k ∧ k ≤ 7) : Bits k := by
  obtain rfl | rfl | rfl | rfl | rfl | rfl | rfl : k = 1 ∨ k = 2 ∨ k = 3 ∨ k = 4 ∨ k = 5 ∨ k = 6 ∨ k = 7 := by omega
  all_goals exact ⟨by decide, by decide, by decide, by decide, by decide, by decide, by decide, by decide, by decide, by decide⟩
theorem fields_ok (k : Int) : decide (fieldsV k < 0) = !(decide (1 ≤ k) && decide (k ≤ 7)) := by
  by_cases h : 1 ≤ k ∧ k ≤ 7
  · obtain rfl | rfl | rfl | rfl | rfl | rfl | rfl : k = 1 ∨ k = 2 ∨ k = 3 ∨ k = 4 ∨ k = 5 ∨ k = 6 ∨ k = 7 := by omega
    all_goals rfl
  · have : fieldsV k = -1 := by
      unfold fieldsV
      rw [if_neg (by omega), if_neg (by omega), if_neg (by omega), if_neg (by omega), if_neg (by omega), if_neg (by omega)]
    rw [this, Bool.eq_iff_iff]
    simp
    omega
def namesE (e : Etr) : Bool := (if hasT e.kind = true then collV e.to && !decide (e.to = e.coll) else decide (e.to = [])) && (if hasC e.kind = true then collV e.coll else decide (e.coll = []))
noncomputable def valuesE (e : Etr) : Bool := (hasI e.kind || noneV e.id) && (hasD e.kind || noneV e.doc) && (hasS e.kind || decide (e.deltas.length = 0)) && (!hasI e.kind || decide (checkV e.id = 0)) && (!hasD e.kind || mayDocV e.doc e.id) && (!hasS e.kind || mayDeltasV e.deltas)
/-- May an entry be? -/
noncomputable def mayE (e : Etr) : Bool := (decide (1 ≤ e.kind) && decide (e.kind ≤ 7)) && (decide (0 ≤ e.term) && decide (e.term ≤ 1099511627776)) && (decide (0 ≤ e.session) && decide (e.session ≤ 255)) && (decide (0 ≤ e.number) && decide (e.number ≤ 1099511627776)) && (!decide (e.kind = 1) || decide (e.session = 0) && decide (e.number = 0)) && namesE e && valuesE e
structure OkE (e : Etr) : Prop where
  ri : rngV e.id
  si : szV e.id ≤ 1099511627776
  rd : rngV e.doc
  sd : szV e.doc ≤ 1099511627776
  ds : e.deltas.length ≤ 64 → ∀ d ∈ e.deltas, okD d
theorem coll_nil : collV [] = false := by decide
theorem d_imp_i {k : Int} (h : hasD k = true) : hasI k = true := by
  unfold hasD at h; unfold hasI; simp at h; simp [h]
theorem pvE {P : Program} {f : FuncId} {v w : Val} {r : SV} (h : PSpec P f [.d (encV v), .d (encV w)] r) : PSpec P f [.d (.agg (valCells v)), .d (.agg (valCells w))] r := by
  rw [encV_eq, encV_eq] at h; exact h

theorem fn66 : FnOk Try.prog 66 40 [4] (bodyOf Try.f66) := ⟨Try.f66, Try.func66, by kernel_rfl, by decide, by kernel_rfl, by kernel_rfl⟩
theorem s66 (e : Etr) (hk : 1 ≤ e.kind ∧ e.kind ≤ 7) : PSpec Try.prog 66 [.d (encE e), .d (.int .i64 (fieldsV e.kind))] (.d (.bool (namesE e))) := by
 have hb := bits_of hk
 refine PSpec.of fn66 (by simp) fun o nk => ?_
 refine wr ?_
 refine u_step (g_box rfl fun o2 hb2 hk2 => ?_)
 refine ua ?_
 refine u_nil ?_
 refine WP.seq fun K3 hK3 => ?_
 refine wr ?_
 refine um ?_
 refine ub ?_
 refine ub ?_
 refine um ?_
 apply gT
 · rfl
 · intro hg
   exact pf th30 th9 hb2
 apply gT
 · rfl
 · intro hg; try simp only [hg, ct]; try simp only [hg, ct, Bt]
   exact pl th9 hb2
 apply gT
 · rfl
 · intro hg; try simp only [hg, ct]; try simp only [hg, ct, Bt]
   refine o_pcall (s39 _) rfl ⟨rfl, rfl, rfl⟩
 apply gT
 · rfl
 · intro hg; try simp only [hg, ct]; try simp only [hg, ct, Bt]
   exact pN
 apply gT
 · rfl
 · intro hg; try simp only [hg, ct]; try simp only [hg, ct, Bt]
   exact pm
 apply u_guard
 · exact GC.cf _ _
 · intro hg
   exact pf th30 th9 hb2
 apply u_guard
 · exact GC.cf _ _
 · intro hg; try simp only [hg, ct]; try simp only [hg, ct, Bt]
   exact pl th9 hb2
 apply u_guard
 · exact GC.cf _ _
 · intro hg
   exact pf th30 th9 hb2
 apply u_guard
 · exact GC.cf _ _
 · intro hg; try simp only [hg, ct]; try simp only [hg, ct, Bt]
   exact pl th9 hb2
 apply u_guard
 · exact GC.cf _ _
 · intro hg; try simp only [hg, ct]; try simp only [hg, ct, Bt]
   exact ps
 apply gT
 · rfl
 · intro hg; try simp only [hg, ct]; try simp only [hg, ct, Bt]
   exact pO
 refine uA ?_
 refine um ?_
 apply gF
 · rfl
 · intro hg
   exact pm
 apply gF
 · rfl
 · intro hg; try simp only [hg, ct]; try simp only [hg, ct, Bt]
   exact pb
 apply gF
 · rfl
 · intro hg; try simp only [hg, ct]; try simp only [hg, ct, Bt]
   exact pb
 apply gF
 · rfl
 · intro hg; try simp only [hg, ct]; try simp only [hg, ct, Bt]
   exact pm
 apply u_guard
 · exact GC.ct _ _
 · intro hg
   exact pf th30 th9 hb2
 apply u_guard
 · exact GC.ct _ _
 · intro hg; try simp only [hg, ct]; try simp only [hg, ct, Bt]
   exact pl th9 hb2
 apply u_guard
 · exact GC.ct _ _
 · intro hg; try simp only [hg, ct]; try simp only [hg, ct, Bt]
   refine o_bin_str rfl (show _ = SV.d (.str []) from rfl) rfl ⟨rfl, rfl, rfl⟩
 apply gF
 · rfl
 · intro hg; try simp only [hg, ct]; try simp only [hg, ct, Bt]
   exact pA
 refine uO ?_
 refine u_nil ?_
 refine wc (fun hc5 => ?_) (fun hc5 => ?_) <;> try simp only [Q0, Q1, Q2, Q3, Q4, Q5, Q6, Q7, Q8, ge_iff_le, gt_iff_lt] at hc5
 ·
  refine wr ?_
  refine ua ?_
  refine u_nil ?_
  refine WP.ret ?_
  refine ret_ok rfl ?_ (by omega) (fun t ht => (hk2 t (by omega)))
  -- ret 1
  clear hK3
  refine congrArg D.bool ?_
  try simp only [hb.t1, hb.t0, hb.c1, hb.c0, hb.i1, hb.i0, hb.d1, hb.d0, hb.s1, hb.s0] at hc5
  try simp only [hb.t1, hb.t0, hb.c1, hb.c0, hb.i1, hb.i0, hb.d1, hb.d0, hb.s1, hb.s0]
  simp only [namesE, List.length_map] at *
  grind
 ·
  refine WP.skip ?_
  refine hK3 _ ?_
  refine WP.seq fun K7 hK7 => ?_
  refine wr ?_
  refine um ?_
  refine ub ?_
  refine ub ?_
  refine u_nil ?_
  refine wc (fun hc9 => ?_) (fun hc9 => ?_) <;> try simp only [Q0, Q1, Q2, Q3, Q4, Q5, Q6, Q7, Q8, ge_iff_le, gt_iff_lt] at hc9
  ·
   refine wr ?_
   refine uf th30 th9 hb2 ?_
   refine ul th9 hb2 ?_
   refine u_step (o_pcall (s39 _) rfl ?_)
   refine ua ?_
   refine u_nil ?_
   refine WP.ret ?_
   refine ret_ok rfl ?_ (by omega) (fun t ht => (hk2 t (by omega)))
   -- ret 2
   clear hK3 hK7
   refine congrArg D.bool ?_
   try simp only [hb.t1, hb.t0, hb.c1, hb.c0, hb.i1, hb.i0, hb.d1, hb.d0, hb.s1, hb.s0] at hc5 hc9
   try simp only [hb.t1, hb.t0, hb.c1, hb.c0, hb.i1, hb.i0, hb.d1, hb.d0, hb.s1, hb.s0]
   simp only [namesE, List.length_map] at *
   grind
  ·
   refine WP.skip ?_
   refine hK7 _ ?_
   refine wr ?_
   refine uf th30 th9 hb2 ?_
   refine ul th9 hb2 ?_
   refine u_step (o_bin_str rfl (show _ = SV.d (.str []) from rfl) rfl ?_)
   refine ua ?_
   refine u_nil ?_
   refine WP.ret ?_
   refine ret_ok rfl ?_ (by omega) (fun t ht => (hk2 t (by omega)))
   -- ret 3
   clear hK3 hK7
   refine congrArg D.bool ?_
   try simp only [hb.t1, hb.t0, hb.c1, hb.c0, hb.i1, hb.i0, hb.d1, hb.d0, hb.s1, hb.s0] at hc5 hc9
   try simp only [hb.t1, hb.t0, hb.c1, hb.c0, hb.i1, hb.i0, hb.d1, hb.d0, hb.s1, hb.s0]
   simp only [namesE, List.length_map] at *
   grind

theorem fn67 : FnOk Try.prog 67 63 [4] (bodyOf Try.f67) := ⟨Try.f67, Try.func67, by kernel_rfl, by decide, by kernel_rfl, by kernel_rfl⟩
theorem s67 (e : Etr) (hk : 1 ≤ e.kind ∧ e.kind ≤ 7) (ok : OkE e) : PSpec Try.prog 67 [.d (encE e), .d (.int .i64 (fieldsV e.kind))] (.d (.bool (valuesE e))) := by
 have hb := bits_of hk
 refine PSpec.of fn67 (by simp) fun o nk => ?_
 refine wr ?_
 refine u_step (g_box rfl fun o2 hb2 hk2 => ?_)
 refine ua ?_
 refine u_nil ?_
 refine WP.seq fun K3 hK3 => ?_
 refine WP.block ?_
 refine WP.seq fun K4 hK4 => ?_
 refine wr ?_
 refine um ?_
 refine ub ?_
 refine ub ?_
 refine um ?_
 apply gT
 · rfl
 · intro hg
   exact pf th30 th27 hb2
 apply gT
 · rfl
 · intro hg; try simp only [hg, ct]; try simp only [hg, ct, Bt]
   exact pg th27 hb2
 apply gT
 · rfl
 · intro hg; try simp only [hg, ct]; try simp only [hg, ct, Bt]
   refine o_pcall (pv (v := e.id) (s95 e.id ok.si)) rfl ⟨rfl, rfl, rfl⟩
 apply gT
 · rfl
 · intro hg; try simp only [hg, ct]; try simp only [hg, ct, Bt]
   exact pN
 refine uA ?_
 refine ua ?_
 refine u_nil ?_
 refine wc (fun hc6 => ?_) (fun hc6 => ?_) <;> try simp only [Q0, Q1, Q2, Q3, Q4, Q5, Q6, Q7, Q8, ge_iff_le, gt_iff_lt] at hc6
 ·
  refine WP.skip ?_
  refine hK4 _ ?_
  refine wc (fun hc7 => ?_) (fun hc7 => ?_) <;> try simp only [Q0, Q1, Q2, Q3, Q4, Q5, Q6, Q7, Q8, ge_iff_le, gt_iff_lt] at hc7
  ·
   refine wr ?_
   refine ua ?_
   refine u_nil ?_
   refine WP.ret ?_
   refine ret_ok rfl ?_ (by omega) (fun t ht => (hk2 t (by omega)))
   -- ret 1
   clear hK3 hK4
   refine congrArg D.bool ?_
   try simp only [hb.t1, hb.t0, hb.c1, hb.c0, hb.i1, hb.i0, hb.d1, hb.d0, hb.s1, hb.s0] at hc6 hc7
   try simp only [hb.t1, hb.t0, hb.c1, hb.c0, hb.i1, hb.i0, hb.d1, hb.d0, hb.s1, hb.s0]
   simp only [valuesE, List.length_map] at *
   grind
  ·
   refine wr ?_
   refine um ?_
   refine ub ?_
   refine ub ?_
   refine um ?_
   apply gT
   · rfl
   · intro hg
     exact pf th30 th27 hb2
   apply gT
   · rfl
   · intro hg; try simp only [hg, ct]; try simp only [hg, ct, Bt]
     exact pg th27 hb2
   apply gT
   · rfl
   · intro hg; try simp only [hg, ct]; try simp only [hg, ct, Bt]
     refine o_pcall (pv (v := e.id) (s53 e.id ok.ri ok.si)) rfl ⟨rfl, rfl, rfl⟩
   apply gT
   · rfl
   · intro hg; try simp only [hg, ct]; try simp only [hg, ct, Bt]
     exact pb
   refine uA ?_
   refine ua ?_
   refine u_nil ?_
   refine wc (fun hc10 => ?_) (fun hc10 => ?_) <;> try simp only [Q0, Q1, Q2, Q3, Q4, Q5, Q6, Q7, Q8, ge_iff_le, gt_iff_lt] at hc10
   ·
    refine wr ?_
    refine ua ?_
    refine u_nil ?_
    refine WP.ret ?_
    refine ret_ok rfl ?_ (by omega) (fun t ht => (hk2 t (by omega)))
    -- ret 2
    clear hK3 hK4
    refine congrArg D.bool ?_
    try simp only [hb.t1, hb.t0, hb.c1, hb.c0, hb.i1, hb.i0, hb.d1, hb.d0, hb.s1, hb.s0] at hc6 hc7 hc10
    try simp only [hb.t1, hb.t0, hb.c1, hb.c0, hb.i1, hb.i0, hb.d1, hb.d0, hb.s1, hb.s0]
    simp only [valuesE, List.length_map] at *
    grind
   ·
    refine wr ?_
    refine um ?_
    refine ub ?_
    refine ub ?_
    refine um ?_
    apply gT
    · rfl
    · intro hg
      exact pf th30 th27 hb2
    apply gT
    · rfl
    · intro hg; try simp only [hg, ct]; try simp only [hg, ct, Bt]
      exact pg th27 hb2
    apply gT
    · rfl
    · intro hg
      exact pf th30 th27 hb2
    apply gT
    · rfl
    · intro hg; try simp only [hg, ct]; try simp only [hg, ct, Bt]
      exact pg th27 hb2
    apply gT
    · rfl
    · intro hg; try simp only [hg, ct]; try simp only [hg, ct, Bt]
      refine o_pcall (pvE (v := e.doc) (w := e.id) (s96 e.doc e.id ok.rd ok.sd (by simp only [hb.d1] at hg; have hi := d_imp_i hg; have hq := hc10; simp only [hb.i1, hi, Bool.true_and, bne_eq_false_iff_eq] at hq; exact check_may hq))) rfl ⟨rfl, rfl, rfl⟩
    apply gT
    · rfl
    · intro hg; try simp only [hg, ct]; try simp only [hg, ct, Bt]
      exact pN
    refine uA ?_
    refine ua ?_
    refine u_nil ?_
    refine wc (fun hc13 => ?_) (fun hc13 => ?_) <;> try simp only [Q0, Q1, Q2, Q3, Q4, Q5, Q6, Q7, Q8, ge_iff_le, gt_iff_lt] at hc13
    ·
     refine wr ?_
     refine ua ?_
     refine u_nil ?_
     refine WP.ret ?_
     refine ret_ok rfl ?_ (by omega) (fun t ht => (hk2 t (by omega)))
     -- ret 3
     clear hK3 hK4
     refine congrArg D.bool ?_
     try simp only [hb.t1, hb.t0, hb.c1, hb.c0, hb.i1, hb.i0, hb.d1, hb.d0, hb.s1, hb.s0] at hc6 hc7 hc10 hc13
     try simp only [hb.t1, hb.t0, hb.c1, hb.c0, hb.i1, hb.i0, hb.d1, hb.d0, hb.s1, hb.s0]
     simp only [valuesE, List.length_map] at *
     grind
    ·
     refine WP.skip ?_
     refine hK3 _ ?_
     refine wr ?_
     refine um ?_
     refine ub ?_
     refine ub ?_
     refine um ?_
     apply gF
     · rfl
     · intro hg
       exact pf th30 th28 hb2
     apply gF
     · rfl
     · intro hg; try simp only [hg, ct]; try simp only [hg, ct, Bt]
       exact pl th28 hb2
     apply gF
     · rfl
     · intro hg; try simp only [hg, ct]; try simp only [hg, ct, Bt]
       refine o_pcall (s97 e.deltas ok.ds) rfl ⟨rfl, rfl, rfl⟩
     refine uO ?_
     refine ua ?_
     refine u_nil ?_
     refine WP.ret ?_
     refine ret_ok rfl ?_ (by omega) (fun t ht => (hk2 t (by omega)))
     -- ret 4
     clear hK3 hK4
     refine congrArg D.bool ?_
     try simp only [hb.t1, hb.t0, hb.c1, hb.c0, hb.i1, hb.i0, hb.d1, hb.d0, hb.s1, hb.s0] at hc6 hc7 hc10 hc13
     try simp only [hb.t1, hb.t0, hb.c1, hb.c0, hb.i1, hb.i0, hb.d1, hb.d0, hb.s1, hb.s0]
     simp only [valuesE, List.length_map] at *
     grind
 ·
  refine wr ?_
  refine um ?_
  refine ub ?_
  refine ub ?_
  refine um ?_
  apply gT
  · rfl
  · intro hg
    exact pf th30 th27 hb2
  apply gT
  · rfl
  · intro hg; try simp only [hg, ct]; try simp only [hg, ct, Bt]
    exact pg th27 hb2
  apply gT
  · rfl
  · intro hg; try simp only [hg, ct]; try simp only [hg, ct, Bt]
    refine o_pcall (pv (v := e.doc) (s95 e.doc ok.sd)) rfl ⟨rfl, rfl, rfl⟩
  apply gT
  · rfl
  · intro hg; try simp only [hg, ct]; try simp only [hg, ct, Bt]
    exact pN
  refine uA ?_
  refine ua ?_
  refine u_nil ?_
  refine wc (fun hc17 => ?_) (fun hc17 => ?_) <;> try simp only [Q0, Q1, Q2, Q3, Q4, Q5, Q6, Q7, Q8, ge_iff_le, gt_iff_lt] at hc17
  ·
   refine WP.skip ?_
   refine hK4 _ ?_
   refine wc (fun hc18 => ?_) (fun hc18 => ?_) <;> try simp only [Q0, Q1, Q2, Q3, Q4, Q5, Q6, Q7, Q8, ge_iff_le, gt_iff_lt] at hc18
   ·
    refine wr ?_
    refine ua ?_
    refine u_nil ?_
    refine WP.ret ?_
    refine ret_ok rfl ?_ (by omega) (fun t ht => (hk2 t (by omega)))
    -- ret 5
    clear hK3 hK4
    refine congrArg D.bool ?_
    try simp only [hb.t1, hb.t0, hb.c1, hb.c0, hb.i1, hb.i0, hb.d1, hb.d0, hb.s1, hb.s0] at hc6 hc17 hc18
    try simp only [hb.t1, hb.t0, hb.c1, hb.c0, hb.i1, hb.i0, hb.d1, hb.d0, hb.s1, hb.s0]
    simp only [valuesE, List.length_map] at *
    grind
   ·
    refine wr ?_
    refine um ?_
    refine ub ?_
    refine ub ?_
    refine um ?_
    apply gT
    · rfl
    · intro hg
      exact pf th30 th27 hb2
    apply gT
    · rfl
    · intro hg; try simp only [hg, ct]; try simp only [hg, ct, Bt]
      exact pg th27 hb2
    apply gT
    · rfl
    · intro hg; try simp only [hg, ct]; try simp only [hg, ct, Bt]
      refine o_pcall (pv (v := e.id) (s53 e.id ok.ri ok.si)) rfl ⟨rfl, rfl, rfl⟩
    apply gT
    · rfl
    · intro hg; try simp only [hg, ct]; try simp only [hg, ct, Bt]
      exact pb
    refine uA ?_
    refine ua ?_
    refine u_nil ?_
    refine wc (fun hc21 => ?_) (fun hc21 => ?_) <;> try simp only [Q0, Q1, Q2, Q3, Q4, Q5, Q6, Q7, Q8, ge_iff_le, gt_iff_lt] at hc21
    ·
     refine wr ?_
     refine ua ?_
     refine u_nil ?_
     refine WP.ret ?_
     refine ret_ok rfl ?_ (by omega) (fun t ht => (hk2 t (by omega)))
     -- ret 6
     clear hK3 hK4
     refine congrArg D.bool ?_
     try simp only [hb.t1, hb.t0, hb.c1, hb.c0, hb.i1, hb.i0, hb.d1, hb.d0, hb.s1, hb.s0] at hc6 hc17 hc18 hc21
     try simp only [hb.t1, hb.t0, hb.c1, hb.c0, hb.i1, hb.i0, hb.d1, hb.d0, hb.s1, hb.s0]
     simp only [valuesE, List.length_map] at *
     grind
    ·
     refine wr ?_
     refine um ?_
     refine ub ?_
     refine ub ?_
     refine um ?_
     apply gT
     · rfl
     · intro hg
       exact pf th30 th27 hb2
     apply gT
     · rfl
     · intro hg; try simp only [hg, ct]; try simp only [hg, ct, Bt]
       exact pg th27 hb2
     apply gT
     · rfl
     · intro hg
       exact pf th30 th27 hb2
     apply gT
     · rfl
     · intro hg; try simp only [hg, ct]; try simp only [hg, ct, Bt]
       exact pg th27 hb2
     apply gT
     · rfl
     · intro hg; try simp only [hg, ct]; try simp only [hg, ct, Bt]
       refine o_pcall (pvE (v := e.doc) (w := e.id) (s96 e.doc e.id ok.rd ok.sd (by simp only [hb.d1] at hg; have hi := d_imp_i hg; have hq := hc21; simp only [hb.i1, hi, Bool.true_and, bne_eq_false_iff_eq] at hq; exact check_may hq))) rfl ⟨rfl, rfl, rfl⟩
     apply gT
     · rfl
     · intro hg; try simp only [hg, ct]; try simp only [hg, ct, Bt]
       exact pN
     refine uA ?_
     refine ua ?_
     refine u_nil ?_
     refine wc (fun hc24 => ?_) (fun hc24 => ?_) <;> try simp only [Q0, Q1, Q2, Q3, Q4, Q5, Q6, Q7, Q8, ge_iff_le, gt_iff_lt] at hc24
     ·
      refine wr ?_
      refine ua ?_
      refine u_nil ?_
      refine WP.ret ?_
      refine ret_ok rfl ?_ (by omega) (fun t ht => (hk2 t (by omega)))
      -- ret 7
      clear hK3 hK4
      refine congrArg D.bool ?_
      try simp only [hb.t1, hb.t0, hb.c1, hb.c0, hb.i1, hb.i0, hb.d1, hb.d0, hb.s1, hb.s0] at hc6 hc17 hc18 hc21 hc24
      try simp only [hb.t1, hb.t0, hb.c1, hb.c0, hb.i1, hb.i0, hb.d1, hb.d0, hb.s1, hb.s0]
      simp only [valuesE, List.length_map] at *
      grind
     ·
      refine WP.skip ?_
      refine hK3 _ ?_
      refine wr ?_
      refine um ?_
      refine ub ?_
      refine ub ?_
      refine um ?_
      apply gF
      · rfl
      · intro hg
        exact pf th30 th28 hb2
      apply gF
      · rfl
      · intro hg; try simp only [hg, ct]; try simp only [hg, ct, Bt]
        exact pl th28 hb2
      apply gF
      · rfl
      · intro hg; try simp only [hg, ct]; try simp only [hg, ct, Bt]
        refine o_pcall (s97 e.deltas ok.ds) rfl ⟨rfl, rfl, rfl⟩
      refine uO ?_
      refine ua ?_
      refine u_nil ?_
      refine WP.ret ?_
      refine ret_ok rfl ?_ (by omega) (fun t ht => (hk2 t (by omega)))
      -- ret 8
      clear hK3 hK4
      refine congrArg D.bool ?_
      try simp only [hb.t1, hb.t0, hb.c1, hb.c0, hb.i1, hb.i0, hb.d1, hb.d0, hb.s1, hb.s0] at hc6 hc17 hc18 hc21 hc24
      try simp only [hb.t1, hb.t0, hb.c1, hb.c0, hb.i1, hb.i0, hb.d1, hb.d0, hb.s1, hb.s0]
      simp only [valuesE, List.length_map] at *
      grind
  ·
   refine WP.reg tabOk rfl ?_
   refine um ?_
   refine ub ?_
   refine ub ?_
   refine um ?_
   apply gT
   · rfl
   · intro hg
     exact pf th30 th28 hb2
   apply gT
   · rfl
   · intro hg; try simp only [hg, ct]; try simp only [hg, ct, Bt]
     exact pl th28 hb2
   apply gT
   · rfl
   · intro hg; try simp only [hg, ct]; try simp only [hg, ct, Bt]
     exact pn th28
   apply gT
   · rfl
   · intro hg; try simp only [hg, ct]; try simp only [hg, ct, Bt]
     exact pb
   refine uA ?_
   refine ua ?_
   refine u_nil ?_
   refine hK4 _ ?_
   refine wc (fun hc27 => ?_) (fun hc27 => ?_) <;> try simp only [Q0, Q1, Q2, Q3, Q4, Q5, Q6, Q7, Q8, ge_iff_le, gt_iff_lt] at hc27
   ·
    refine wr ?_
    refine ua ?_
    refine u_nil ?_
    refine WP.ret ?_
    refine ret_ok rfl ?_ (by omega) (fun t ht => (hk2 t (by omega)))
    -- ret 9
    clear hK3 hK4
    refine congrArg D.bool ?_
    try simp only [hb.t1, hb.t0, hb.c1, hb.c0, hb.i1, hb.i0, hb.d1, hb.d0, hb.s1, hb.s0] at hc6 hc17 hc27
    try simp only [hb.t1, hb.t0, hb.c1, hb.c0, hb.i1, hb.i0, hb.d1, hb.d0, hb.s1, hb.s0]
    simp only [valuesE, List.length_map] at *
    grind
   ·
    refine wr ?_
    refine um ?_
    refine ub ?_
    refine ub ?_
    refine um ?_
    apply gT
    · rfl
    · intro hg
      exact pf th30 th27 hb2
    apply gT
    · rfl
    · intro hg; try simp only [hg, ct]; try simp only [hg, ct, Bt]
      exact pg th27 hb2
    apply gT
    · rfl
    · intro hg; try simp only [hg, ct]; try simp only [hg, ct, Bt]
      refine o_pcall (pv (v := e.id) (s53 e.id ok.ri ok.si)) rfl ⟨rfl, rfl, rfl⟩
    apply gT
    · rfl
    · intro hg; try simp only [hg, ct]; try simp only [hg, ct, Bt]
      exact pb
    refine uA ?_
    refine ua ?_
    refine u_nil ?_
    refine wc (fun hc30 => ?_) (fun hc30 => ?_) <;> try simp only [Q0, Q1, Q2, Q3, Q4, Q5, Q6, Q7, Q8, ge_iff_le, gt_iff_lt] at hc30
    ·
     refine wr ?_
     refine ua ?_
     refine u_nil ?_
     refine WP.ret ?_
     refine ret_ok rfl ?_ (by omega) (fun t ht => (hk2 t (by omega)))
     -- ret 10
     clear hK3 hK4
     refine congrArg D.bool ?_
     try simp only [hb.t1, hb.t0, hb.c1, hb.c0, hb.i1, hb.i0, hb.d1, hb.d0, hb.s1, hb.s0] at hc6 hc17 hc27 hc30
     try simp only [hb.t1, hb.t0, hb.c1, hb.c0, hb.i1, hb.i0, hb.d1, hb.d0, hb.s1, hb.s0]
     simp only [valuesE, List.length_map] at *
     grind
    ·
     refine wr ?_
     refine um ?_
     refine ub ?_
     refine ub ?_
     refine um ?_
     apply gT
     · rfl
     · intro hg
       exact pf th30 th27 hb2
     apply gT
     · rfl
     · intro hg; try simp only [hg, ct]; try simp only [hg, ct, Bt]
       exact pg th27 hb2
     apply gT
     · rfl
     · intro hg
       exact pf th30 th27 hb2
     apply gT
     · rfl
     · intro hg; try simp only [hg, ct]; try simp only [hg, ct, Bt]
       exact pg th27 hb2
     apply gT
     · rfl
     · intro hg; try simp only [hg, ct]; try simp only [hg, ct, Bt]
       refine o_pcall (pvE (v := e.doc) (w := e.id) (s96 e.doc e.id ok.rd ok.sd (by simp only [hb.d1] at hg; have hi := d_imp_i hg; have hq := hc30; simp only [hb.i1, hi, Bool.true_and, bne_eq_false_iff_eq] at hq; exact check_may hq))) rfl ⟨rfl, rfl, rfl⟩
     apply gT
     · rfl
     · intro hg; try simp only [hg, ct]; try simp only [hg, ct, Bt]
       exact pN
     refine uA ?_
     refine ua ?_
     refine u_nil ?_
     refine wc (fun hc33 => ?_) (fun hc33 => ?_) <;> try simp only [Q0, Q1, Q2, Q3, Q4, Q5, Q6, Q7, Q8, ge_iff_le, gt_iff_lt] at hc33
     ·
      refine wr ?_
      refine ua ?_
      refine u_nil ?_
      refine WP.ret ?_
      refine ret_ok rfl ?_ (by omega) (fun t ht => (hk2 t (by omega)))
      -- ret 11
      clear hK3 hK4
      refine congrArg D.bool ?_
      try simp only [hb.t1, hb.t0, hb.c1, hb.c0, hb.i1, hb.i0, hb.d1, hb.d0, hb.s1, hb.s0] at hc6 hc17 hc27 hc30 hc33
      try simp only [hb.t1, hb.t0, hb.c1, hb.c0, hb.i1, hb.i0, hb.d1, hb.d0, hb.s1, hb.s0]
      simp only [valuesE, List.length_map] at *
      grind
     ·
      refine WP.skip ?_
      refine hK3 _ ?_
      refine wr ?_
      refine um ?_
      refine ub ?_
      refine ub ?_
      refine um ?_
      apply gF
      · rfl
      · intro hg
        exact pf th30 th28 hb2
      apply gF
      · rfl
      · intro hg; try simp only [hg, ct]; try simp only [hg, ct, Bt]
        exact pl th28 hb2
      apply gF
      · rfl
      · intro hg; try simp only [hg, ct]; try simp only [hg, ct, Bt]
        refine o_pcall (s97 e.deltas ok.ds) rfl ⟨rfl, rfl, rfl⟩
      refine uO ?_
      refine ua ?_
      refine u_nil ?_
      refine WP.ret ?_
      refine ret_ok rfl ?_ (by omega) (fun t ht => (hk2 t (by omega)))
      -- ret 12
      clear hK3 hK4
      refine congrArg D.bool ?_
      try simp only [hb.t1, hb.t0, hb.c1, hb.c0, hb.i1, hb.i0, hb.d1, hb.d0, hb.s1, hb.s0] at hc6 hc17 hc27 hc30 hc33
      try simp only [hb.t1, hb.t0, hb.c1, hb.c0, hb.i1, hb.i0, hb.d1, hb.d0, hb.s1, hb.s0]
      simp only [valuesE, List.length_map] at *
      grind

end Go.Proofs.Ytpkcbdhjnnnkbaa.Abs

set_option linter.unusedVariables false
set_option linter.unusedSimpArgs false
set_option maxRecDepth 10000
namespace Go.Proofs.Ytpkcbdhjnnnkbaa.Abs
open Go
theorem may_split {e : Etr} {b : Bool} (h : fieldsV e.kind < 0 → b = true) : b = false → 1 ≤ e.kind ∧ e.kind ≤ 7 := fun hb => by
  have := fields_ok e.kind
  by_cases hf : fieldsV e.kind < 0
  · rw [h hf] at hb; cases hb
  · rw [decide_eq_false hf] at this
    simpa using this.symm

theorem fn37 : FnOk Try.prog 37 48 [2] (bodyOf Try.f37) := ⟨Try.f37, Try.func37, by kernel_rfl, by decide, by kernel_rfl, by kernel_rfl⟩
theorem s37 (e : Etr) (ok : OkE e) : PSpec Try.prog 37 [.d (encE e)] (.d (.bool (mayE e))) := by
 refine PSpec.of fn37 (by simp) fun o nk => ?_
 refine wr ?_
 refine u_step (g_box rfl fun o2 hb2 hk2 => ?_)
 refine ua ?_
 refine u_nil ?_
 refine wr ?_
 refine uf th30 th3 hb2 ?_
 refine ul th3 hb2 ?_
 refine u_step (o_pcall (s64 e.kind) rfl ?_)
 refine ua ?_
 refine u_nil ?_
 refine WP.seq fun K4 hK4 => ?_
 refine wr ?_
 refine um ?_
 refine ub ?_
 refine um ?_
 apply gF
 · rfl
 · intro hg
   exact pf th30 th3 hb2
 apply gF
 · rfl
 · intro hg; try simp only [hg, ct]; try simp only [hg, ct, Bt]
   exact pl th3 hb2
 apply gF
 · rfl
 · intro hg; try simp only [hg, ct]; try simp only [hg, ct, Bt]
   refine o_pcall (s65 e.term _) rfl ⟨rfl, rfl, rfl⟩
 apply gF
 · rfl
 · intro hg; try simp only [hg, ct]; try simp only [hg, ct, Bt]
   exact pN
 refine uO ?_
 refine um ?_
 apply gF
 · rfl
 · intro hg
   exact pf th30 th3 hb2
 apply gF
 · rfl
 · intro hg; try simp only [hg, ct]; try simp only [hg, ct, Bt]
   exact pl th3 hb2
 apply gF
 · rfl
 · intro hg; try simp only [hg, ct]; try simp only [hg, ct, Bt]
   refine o_pcall (s65 e.session _) rfl ⟨rfl, rfl, rfl⟩
 apply gF
 · rfl
 · intro hg; try simp only [hg, ct]; try simp only [hg, ct, Bt]
   exact pN
 refine uO ?_
 refine um ?_
 apply gF
 · rfl
 · intro hg
   exact pf th30 th3 hb2
 apply gF
 · rfl
 · intro hg; try simp only [hg, ct]; try simp only [hg, ct, Bt]
   exact pl th3 hb2
 apply gF
 · rfl
 · intro hg; try simp only [hg, ct]; try simp only [hg, ct, Bt]
   refine o_pcall (s65 e.number _) rfl ⟨rfl, rfl, rfl⟩
 apply gF
 · rfl
 · intro hg; try simp only [hg, ct]; try simp only [hg, ct, Bt]
   exact pN
 refine uO ?_
 refine u_nil ?_
 refine wc (fun hc6 => ?_) (fun hc6 => ?_) <;> try simp only [Q0, Q1, Q2, Q3, Q4, Q5, Q6, Q7, Q8, ge_iff_le, gt_iff_lt] at hc6
 ·
  refine wr ?_
  refine ua ?_
  refine u_nil ?_
  refine WP.ret ?_
  refine ret_ok rfl ?_ (by omega) (fun t ht => (hk2 t (by omega)))
  -- ret 1
  clear hK4
  refine congrArg D.bool ?_
  have hfk := fields_ok e.kind
  simp only [decide_eq_true_eq, decide_eq_false_iff_not, mayE] at *
  grind
 ·
  have hk := may_split (e := e) (b := _) (fun hf => by simp [hf]) hc6
  refine WP.skip ?_
  refine hK4 _ ?_
  refine WP.seq fun K8 hK8 => ?_
  refine wr ?_
  refine uf th30 th3 hb2 ?_
  refine ul th3 hb2 ?_
  refine ub ?_
  refine um ?_
  apply gT
  · rfl
  · intro hg
    exact pf th30 th3 hb2
  apply gT
  · rfl
  · intro hg; try simp only [hg, ct]; try simp only [hg, ct, Bt]
    exact pl th3 hb2
  apply gT
  · rfl
  · intro hg; try simp only [hg, ct]; try simp only [hg, ct, Bt]
    exact pb
  apply gT
  · rfl
  · intro hg; try simp only [hg, ct]; try simp only [hg, ct, Bt]
    exact pm
  apply u_guard
  · exact GC.cf _ _
  · intro hg
    exact pf th30 th3 hb2
  apply u_guard
  · exact GC.cf _ _
  · intro hg; try simp only [hg, ct]; try simp only [hg, ct, Bt]
    exact pl th3 hb2
  apply u_guard
  · exact GC.cf _ _
  · intro hg; try simp only [hg, ct]; try simp only [hg, ct, Bt]
    exact pb
  apply gT
  · rfl
  · intro hg; try simp only [hg, ct]; try simp only [hg, ct, Bt]
    exact pO
  refine uA ?_
  refine u_nil ?_
  refine wc (fun hc10 => ?_) (fun hc10 => ?_) <;> try simp only [Q0, Q1, Q2, Q3, Q4, Q5, Q6, Q7, Q8, ge_iff_le, gt_iff_lt] at hc10
  ·
   refine wr ?_
   refine ua ?_
   refine u_nil ?_
   refine WP.ret ?_
   refine ret_ok rfl ?_ (by omega) (fun t ht => (hk2 t (by omega)))
   -- ret 2
   clear hK4 hK8
   refine congrArg D.bool ?_
   have hfk := fields_ok e.kind
   simp only [decide_eq_true_eq, decide_eq_false_iff_not, mayE] at *
   grind
  ·
   refine WP.skip ?_
   refine hK8 _ ?_
   refine wr ?_
   refine ug th30 hb2 ?_
   refine um ?_
   refine u_step (o_pcall (s66 e hk) rfl ?_)
   refine um ?_
   apply gT
   · rfl
   · intro hg
     exact pg th30 hb2
   apply gT
   · rfl
   · intro hg
     exact pm
   apply gT
   · rfl
   · intro hg; try simp only [hg, ct]; try simp only [hg, ct, Bt]
     refine o_pcall (s67 e hk ok) rfl ⟨rfl, rfl, rfl⟩
   refine uA ?_
   refine ua ?_
   refine u_nil ?_
   refine WP.ret ?_
   refine ret_ok rfl ?_ (by omega) (fun t ht => (hk2 t (by omega)))
   -- ret 3
   clear hK4 hK8
   refine congrArg D.bool ?_
   have hfk := fields_ok e.kind
   simp only [decide_eq_true_eq, decide_eq_false_iff_not, mayE] at *
   grind

end Go.Proofs.Ytpkcbdhjnnnkbaa.Abs

set_option linter.unusedVariables false
set_option linter.unusedSimpArgs false
set_option maxRecDepth 10000
namespace Go.Proofs.Ytpkcbdhjnnnkbaa.Abs
open Go
def kindIn (ks k : Int) : Bool := decide (ks / ((2 ^ k.toNat : Nat) : Int) % 2 = 1)
theorem and_tab : ∀ n : Nat, n < 256 → ∀ k : Nat, k < 8 → (bitsOf .and .i64 (n : Int) ((2 ^ k : Nat) : Int) == 0) = !decide ((n : Int) / ((2 ^ k : Nat) : Int) % 2 = 1) := by decide +kernel
theorem or_tab : ∀ n : Nat, n < 256 → ∀ k : Nat, k < 8 → bitsOf .or .i64 (n : Int) ((2 ^ k : Nat) : Int) = ((n ||| 2 ^ k : Nat) : Int) ∧ n ||| 2 ^ k < 256 := by decide +kernel
theorem low_tab : ∀ n : Nat, n < 256 → n % 4 = 0 → n &&& 18446744073709551363 = 0 := by decide +kernel
theorem and_kind {ks k : Int} (h1 : 0 ≤ ks) (h2 : ks < 256) (h3 : 0 ≤ k) (h4 : k ≤ 7) : (bitsOf .and .i64 ks ((2 ^ k.toNat : Nat) : Int) == 0) = !kindIn ks k := by
  obtain ⟨n, rfl⟩ := Int.eq_ofNat_of_zero_le h1
  exact and_tab n (by omega) k.toNat (by omega)
theorem quo_kind {ks k : Int} (h1 : 0 ≤ ks) (h2 : ks < 256) : (IntKind.i64.wrap (ks.tdiv ((2 ^ k.toNat : Nat) : Int))).tmod 2 = ks / ((2 ^ k.toNat : Nat) : Int) % 2 := by
  have hp : (0 : Int) < ((2 ^ k.toNat : Nat) : Int) := by have := Nat.two_pow_pos k.toNat; omega
  have hd : 0 ≤ ks / ((2 ^ k.toNat : Nat) : Int) := Int.ediv_nonneg h1 (by omega)
  have hle : ks / ((2 ^ k.toNat : Nat) : Int) ≤ ks := Int.ediv_le_self _ h1
  rw [Int.tdiv_eq_ediv_of_nonneg h1, wrap_i64 (by omega) (by omega), Int.tmod_eq_emod_of_nonneg hd]
theorem shl1 {k : Int} (h : 0 ≤ k) (h2 : k ≤ 62) : shBin .shl .i64 1 k = some (.int .i64 ((2 ^ k.toNat : Nat) : Int)) := by
  have h62 : ∀ j : Nat, j < 63 → IntKind.i64.wrap (1 * 2 ^ min j 64) = ((2 ^ j : Nat) : Int) := by decide +kernel
  simp only [shBin]
  rw [if_neg (by omega)]
  exact congrArg (fun m : Int => some (D.int .i64 m)) (h62 k.toNat (by omega))
theorem andNot252 {x : Int} (h1 : -9223372036854775808 ≤ x) (h2 : x ≤ 9223372036854775807) : (bitsOf .andNot .i64 x 252 == 0) = (decide (0 ≤ x) && decide (x < 256) && decide (x % 4 = 0)) := by
  have hn : (BitVec.ofInt 64 x &&& ~~~(BitVec.ofInt 64 252)).toNat = (BitVec.ofInt 64 x).toNat &&& 18446744073709551363 := by
    rw [BitVec.toNat_and]; rfl
  have hx : (BitVec.ofInt 64 x).toNat = (x % 18446744073709551616).toNat := by rw [BitVec.toNat_ofInt]; rfl
  have e : bitsOf .andNot .i64 x 252 = IntKind.i64.wrap (((x % 18446744073709551616).toNat &&& 18446744073709551363 : Nat) : Int) := by
    show IntKind.i64.wrap ((BitVec.ofInt 64 x &&& ~~~(BitVec.ofInt 64 252)).toNat : Int) = _
    rw [hn, hx]
  rw [e]
  generalize hm : (x % 18446744073709551616).toNat = n
  have hlt : n < 18446744073709551616 := by omega
  have hy : n &&& 18446744073709551363 < 18446744073709551616 := Nat.lt_of_le_of_lt Nat.and_le_left hlt
  have hw : IntKind.i64.wrap ((n &&& 18446744073709551363 : Nat) : Int) = 0 ↔ n &&& 18446744073709551363 = 0 := by
    rw [IntKind.wrap_i64]; omega
  have hz : n &&& 18446744073709551363 = 0 ↔ n < 256 ∧ n % 4 = 0 := by
    constructor
    · intro h
      have h4 : n % 4 = 0 := by
        have a : n &&& 3 = n % 4 := Nat.and_two_pow_sub_one_eq_mod n 2
        have b : (n &&& 18446744073709551363) &&& 3 = n &&& 3 := by rw [Nat.and_assoc, show (18446744073709551363 &&& 3 : Nat) = 3 from by decide]
        rw [← a, ← b, h]; rfl
      have h8 : n / 256 = 0 := by
        have a : (n &&& 18446744073709551363) >>> 8 = (n >>> 8) &&& (18446744073709551363 >>> 8) := Nat.shiftRight_and_distrib
        rw [h] at a
        have b : n >>> 8 = n / 256 := Nat.shiftRight_eq_div_pow n 8
        have c : (n / 256) &&& 72057594037927935 = (n / 256) % 72057594037927936 := Nat.and_two_pow_sub_one_eq_mod _ 56
        rw [b] at a
        have d : (0 : Nat) >>> 8 = 0 := rfl
        have e : (18446744073709551363 : Nat) >>> 8 = 72057594037927935 := rfl
        rw [d, e, c] at a
        omega
      omega
    · rintro ⟨h, h'⟩; exact low_tab n h h'
  rw [Bool.eq_iff_iff]
  simp only [beq_iff_eq, Bool.and_eq_true, decide_eq_true_eq, hw, hz]
  omega
/-- The sum of kinds. -/
def ofN : List Int → Nat → Nat
  | [], x => x
  | k :: r, x => ofN r (if 1 < k ∧ k ≤ 7 then x ||| 2 ^ k.toNat else x)
theorem ofN_snoc : ∀ (l : List Int) (k : Int) (x : Nat), ofN (l ++ [k]) x = if 1 < k ∧ k ≤ 7 then ofN l x ||| 2 ^ k.toNat else ofN l x
  | [], k, x => rfl
  | y :: l, k, x => by simp only [List.cons_append, ofN]; exact ofN_snoc l k _
theorem ofN_lt : ∀ (l : List Int) (x : Nat), x < 256 → ofN l x < 256
  | [], x, h => h
  | k :: l, x, h => by
    simp only [ofN]
    refine ofN_lt l _ ?_
    split
    · exact (or_tab x h k.toNat (by omega)).2
    · exact h
theorem ofN_take {l : List Int} {i : Nat} (h : i < l.length) : ofN (l.take (i + 1)) 0 = if 1 < l[i]'h ∧ l[i]'h ≤ 7 then ofN (l.take i) 0 ||| 2 ^ (l[i]'h).toNat else ofN (l.take i) 0 := by
  rw [List.take_succ_eq_append_getElem h, ofN_snoc]
def mayF (f : Flt) : Bool := (decide (f.coll = []) || collV f.coll) && (decide (f.path.length = 0) || pathV f.path) && (decide (0 ≤ f.kinds) && decide (f.kinds < 256) && decide (f.kinds % 4 = 0))
structure OkF (f : Flt) : Prop where
  lo : -9223372036854775808 ≤ f.kinds
  hi : f.kinds ≤ 9223372036854775807

theorem fn18 : FnOk Try.prog 18 24 [2] (bodyOf Try.f18) := ⟨Try.f18, Try.func18, by kernel_rfl, by decide, by kernel_rfl, by kernel_rfl⟩
theorem s18 (l : List Int) : PSpec Try.prog 18 [.d (.sl 1 (l.map (D.int .i64)))] (.d (.int .i64 (ofN l 0 : Nat))) := by
 refine PSpec.bd fun hbd => ?_
 have hx : l.length ≤ 9223372036854775807 := by simpa using hbd.1.1
 refine PSpec.of fn18 (by simp) fun o nk => ?_
 refine wr ?_
 refine ua ?_
 refine u_nil ?_
 refine wr ?_
 refine ua ?_
 refine u_nil ?_
 refine WP.seq fun K3 hK3 => ?_
 refine wr ?_
 refine um ?_
 refine un th64 ?_
 refine um ?_
 refine u_nil ?_
 refine WP.block ?_
 refine WP.loopL (ι := Nat) (fun i => ⟨al [(3, .d (.int .i64 (ofN (l.take i) 0 : Nat))), (6, .d (.sl 1 (l.map (D.int .i64)))), (7, .d (.int .i64 (l.map (D.int .i64)).length)), (8, .d (.int .i64 i))], o, nk⟩) (fun i => i ≤ l.length ∧ True) (fun i => l.length - i) (fun i hA => ?_) 0 ?_ ?_
 ·
  obtain ⟨hle_i, hin_i⟩ := hA
  refine wr ?_
  refine ub ?_
  refine u_nil ?_
  refine WP.seq fun K6 hK6 => ?_
  refine wc (fun hc7 => ?_) (fun hc7 => ?_) <;> try simp only [Q0, Q1, Q2, Q3, Q4, Q5, Q6, Q7, Q8, ge_iff_le, gt_iff_lt] at hc7
  ·
   refine WP.skip ?_
   refine hK6 _ ?_
   refine WP.seq fun K8 hK8 => ?_
   refine WP.block ?_
   refine wr ?_
   first | refine u_step (o_ia_map rfl rfl th64 rfl th3 rfl (by omega) ?_) | refine u_step (o_ia_vs rfl rfl th64 rfl th3 rfl (by omega) ?_)
   refine uL th3 ?_
   refine ua ?_
   refine u_nil ?_
   refine wr ?_
   refine um ?_
   refine ub ?_
   refine um ?_
   apply gT
   · rfl
   · intro hg
     exact pm
   apply gT
   · rfl
   · intro hg; try simp only [hg, ct]; try simp only [hg, ct, Bt]
     exact pb
   refine uA ?_
   refine u_nil ?_
   refine wc (fun hc11 => ?_) (fun hc11 => ?_) <;> try simp only [Q0, Q1, Q2, Q3, Q4, Q5, Q6, Q7, Q8, ge_iff_le, gt_iff_lt] at hc11
   ·
    have hk : 1 < l[i] ∧ l[i] ≤ 7 := by simpa using hc11
    refine WP.reg tabOk rfl ?_
    refine um ?_
    refine um ?_
    refine u_step (o_bin_sh rfl rfl (shl1 (by omega) (by omega)) ?_)
    refine ub ?_
    refine ua ?_
    refine u_nil ?_
    refine hK8 _ ?_
    refine WP.reg tabOk rfl ?_
    refine ub ?_
    refine um ?_
    refine u_nil ?_
    -- back
    have hot := ofN_take (l := l) (i := i) (by omega)
    have hlt := ofN_lt (l.take i) 0 (by omega)
    refine ⟨i + 1, ⟨by omega, trivial⟩, by omega, ?_⟩
    refine Le.al ?_
    simp only [List.forall_mem_cons]
    refine ⟨?_, rfl, rfl, cnt (by omega), by simp⟩
    have hl := hc11
    first | (rw [hot, if_pos hk, ← (or_tab _ hlt l[i].toNat (by omega)).1]; rfl) | (rw [hot, if_neg (by simpa using hl)]; rfl)
   ·
    refine WP.skip ?_
    refine hK8 _ ?_
    refine WP.reg tabOk rfl ?_
    refine ub ?_
    refine um ?_
    refine u_nil ?_
    -- back
    have hot := ofN_take (l := l) (i := i) (by omega)
    have hlt := ofN_lt (l.take i) 0 (by omega)
    refine ⟨i + 1, ⟨by omega, trivial⟩, by omega, ?_⟩
    refine Le.al ?_
    simp only [List.forall_mem_cons]
    refine ⟨?_, rfl, rfl, cnt (by omega), by simp⟩
    have hl := hc11
    first | (rw [hot, if_pos hk, ← (or_tab _ hlt l[i].toNat (by omega)).1]; rfl) | (rw [hot, if_neg (by simpa using hl)]; rfl)
  ·
   refine WP.exit ?_
   refine hK3 _ ?_
   refine wr ?_
   refine um ?_
   refine ua ?_
   refine u_nil ?_
   refine WP.ret ?_
   refine ret_ok rfl ?_ (by omega) (fun _ _ => rfl)
   -- ret 1
   rw [List.take_of_length_le (by omega)]
 ·
  simp
 ·
  refine Le.al ?_
  simp only [List.forall_mem_cons]
  exact ⟨rfl, rfl, rfl, rfl, by simp⟩

theorem fn41 : FnOk Try.prog 41 3 [0] (bodyOf Try.f41) := ⟨Try.f41, Try.func41, by kernel_rfl, by decide, by kernel_rfl, by kernel_rfl⟩
theorem s41  : PSpec Try.prog 41 [] (.d (.int .i64 252)) := by
 refine PSpec.of fn41 (by simp) fun o nk => ?_
 refine wr ?_
 refine ua ?_
 refine u_nil ?_
 refine wr ?_
 refine u_step (o_bs rfl th64 rfl th3 rfl rfl (by decide) rfl (by decide) (by decide) ?_)
 refine u_step (o_pcall (s18 [2, 3, 4, 5, 6, 7]) rfl ?_)
 refine ua ?_
 refine u_nil ?_
 refine WP.ret ?_
 refine ret_ok rfl ?_ (by omega) (fun _ _ => rfl)
 -- ret 1
 rfl

theorem fn19 : FnOk Try.prog 19 28 [2] (bodyOf Try.f19) := ⟨Try.f19, Try.func19, by kernel_rfl, by decide, by kernel_rfl, by kernel_rfl⟩
theorem s19 (f : Flt) (ok : OkF f) : PSpec Try.prog 19 [.d (encF f)] (.d (.bool (mayF f))) := by
 have hn := andNot252 ok.lo ok.hi
 refine PSpec.of fn19 (by simp) fun o nk => ?_
 refine wr ?_
 refine u_step (g_box rfl fun o2 hb2 hk2 => ?_)
 refine ua ?_
 refine u_nil ?_
 refine WP.seq fun K3 hK3 => ?_
 refine WP.block ?_
 refine WP.seq fun K4 hK4 => ?_
 refine wr ?_
 refine uf th24 th9 hb2 ?_
 refine ul th9 hb2 ?_
 refine u_step (o_bin_str rfl (show _ = SV.d (.str []) from rfl) rfl ?_)
 refine um ?_
 apply gT
 · rfl
 · intro hg
   exact pf th24 th9 hb2
 apply gT
 · rfl
 · intro hg; try simp only [hg, ct]; try simp only [hg, ct, Bt]
   exact pl th9 hb2
 apply gT
 · rfl
 · intro hg; try simp only [hg, ct]; try simp only [hg, ct, Bt]
   refine o_pcall (s39 f.coll) rfl ⟨rfl, rfl, rfl⟩
 apply gT
 · rfl
 · intro hg; try simp only [hg, ct]; try simp only [hg, ct, Bt]
   exact pN
 refine uA ?_
 refine ua ?_
 refine u_nil ?_
 refine wc (fun hc6 => ?_) (fun hc6 => ?_) <;> try simp only [Q0, Q1, Q2, Q3, Q4, Q5, Q6, Q7, Q8, ge_iff_le, gt_iff_lt] at hc6
 ·
  refine WP.skip ?_
  refine hK4 _ ?_
  refine wc (fun hc7 => ?_) (fun hc7 => ?_) <;> try simp only [Q0, Q1, Q2, Q3, Q4, Q5, Q6, Q7, Q8, ge_iff_le, gt_iff_lt] at hc7
  ·
   refine wr ?_
   refine ua ?_
   refine u_nil ?_
   refine WP.ret ?_
   refine ret_ok rfl ?_ (by omega) (fun t ht => (hk2 t (by omega)))
   -- ret 1
   clear hK3 hK4
   refine congrArg D.bool ?_
   simp only [mayF, List.length_map] at *
   grind
  ·
   refine WP.skip ?_
   refine hK3 _ ?_
   refine wd ?_
   refine df th24 th3 hb2 ?_
   refine dl th3 hb2 ?_
   refine d_step (o_pcall (s41) rfl ⟨rfl, rfl, rfl⟩) ?_
   refine db ?_
   refine db ?_
   refine da ?_
   refine d_nil ?_
   refine WP.ret ?_
   refine ret_ok rfl ?_ (by omega) (fun t ht => (hk2 t (by omega)))
   -- ret 2
   clear hK3 hK4
   refine congrArg D.bool ?_
   simp only [mayF, List.length_map] at *
   grind
 ·
  refine WP.reg tabOk rfl ?_
  refine uf th24 th22 hb2 ?_
  refine ul th22 hb2 ?_
  refine un th22 ?_
  refine ub ?_
  refine um ?_
  apply gT
  · rfl
  · intro hg
    exact pf th24 th22 hb2
  apply gT
  · rfl
  · intro hg; try simp only [hg, ct]; try simp only [hg, ct, Bt]
    exact pl th22 hb2
  apply gT
  · rfl
  · intro hg; try simp only [hg, ct]; try simp only [hg, ct, Bt]
    refine o_pcall (s40 f.path) rfl ⟨rfl, rfl, rfl⟩
  apply gT
  · rfl
  · intro hg; try simp only [hg, ct]; try simp only [hg, ct, Bt]
    exact pN
  refine uA ?_
  refine ua ?_
  refine u_nil ?_
  refine hK4 _ ?_
  refine wc (fun hc10 => ?_) (fun hc10 => ?_) <;> try simp only [Q0, Q1, Q2, Q3, Q4, Q5, Q6, Q7, Q8, ge_iff_le, gt_iff_lt] at hc10
  ·
   refine wr ?_
   refine ua ?_
   refine u_nil ?_
   refine WP.ret ?_
   refine ret_ok rfl ?_ (by omega) (fun t ht => (hk2 t (by omega)))
   -- ret 3
   clear hK3 hK4
   refine congrArg D.bool ?_
   simp only [mayF, List.length_map] at *
   grind
  ·
   refine WP.skip ?_
   refine hK3 _ ?_
   refine wd ?_
   refine df th24 th3 hb2 ?_
   refine dl th3 hb2 ?_
   refine d_step (o_pcall (s41) rfl ⟨rfl, rfl, rfl⟩) ?_
   refine db ?_
   refine db ?_
   refine da ?_
   refine d_nil ?_
   refine WP.ret ?_
   refine ret_ok rfl ?_ (by omega) (fun t ht => (hk2 t (by omega)))
   -- ret 4
   clear hK3 hK4
   refine congrArg D.bool ?_
   simp only [mayF, List.length_map] at *
   grind

theorem fn15 : FnOk Try.prog 15 11 [4] (bodyOf Try.f15) := ⟨Try.f15, Try.func15, by kernel_rfl, by decide, by kernel_rfl, by kernel_rfl⟩
theorem s15 (f : Flt) (e : Etr) (okf : OkF f) (ok : OkE e) : PSpec Try.prog 15 [.d (encF f), .d (encE e)] (.d (.bool (mayF f && mayE e))) := by
 refine PSpec.of fn15 (by simp) fun o nk => ?_
 refine wr ?_
 refine u_step (g_box rfl fun o2 hb2 hk2 => ?_)
 refine u_step (g_box rfl fun o3 hb3 hk3 => ?_)
 have hb2_3 := (hk3 _ (by omega)).trans hb2
 refine ua ?_
 refine u_nil ?_
 refine wr ?_
 refine ug th24 hb2_3 ?_
 refine u_step (o_pcall (s19 f okf) rfl ?_)
 refine um ?_
 apply gT
 · rfl
 · intro hg
   exact pg th30 hb3
 apply gT
 · rfl
 · intro hg; try simp only [hg, ct]; try simp only [hg, ct, Bt]
   refine o_pcall (s37 e ok) rfl ⟨rfl, rfl, rfl⟩
 refine uA ?_
 refine ua ?_
 refine u_nil ?_
 refine WP.ret ?_
 refine ret_ok rfl ?_ (by omega) (fun t ht => (hk3 t (by omega)).trans ((hk2 t (by omega))))
 -- ret 1
 rfl

end Go.Proofs.Ytpkcbdhjnnnkbaa.Abs

set_option linter.unusedVariables false
set_option linter.unusedSimpArgs false
set_option maxRecDepth 10000
namespace Go.Proofs.Ytpkcbdhjnnnkbaa.Abs
open Go
def ofCollV (f : Flt) (e : Etr) : Bool := decide (f.coll = []) || decide (e.coll = f.coll) || (decide (e.kind = 7) && decide (e.to = f.coll))
def atPathV (f : Flt) (e : Etr) : Bool := if f.path.length = 0 then true else if e.kind = 2 then (getP e.doc f.path).isSome else if e.kind = 3 then touchD e.deltas f.path else true
noncomputable def matchV (f : Flt) (e : Etr) : Bool := mayF f && mayE e && !decide (e.kind = 1) && (decide (f.kinds = 0) || kindIn f.kinds e.kind) && ofCollV f e && atPathV f e
noncomputable def endsV (f : Flt) (e : Etr) : Bool := mayF f && mayE e && !decide (f.coll = []) && (decide (e.kind = 6) || decide (e.kind = 7)) && decide (e.coll = f.coll)
theorem mayF_kinds {f : Flt} (h : mayF f = true) : 0 ≤ f.kinds ∧ f.kinds < 256 := by
  simp only [mayF, Bool.and_eq_true, decide_eq_true_eq] at h
  exact h.2.1
theorem mayE_kind {e : Etr} (h : mayE e = true) : 1 ≤ e.kind ∧ e.kind ≤ 7 := by
  simp only [mayE, Bool.and_eq_true, decide_eq_true_eq] at h
  grind
theorem mayE_doc {e : Etr} (h : mayE e = true) (hk : e.kind = 2) : e.doc.kind = 7 ∧ checkV e.doc = 0 := by
  simp only [mayE, valuesE, Bool.and_eq_true] at h
  have h1 := h.2.1.2
  rw [hk] at h1
  simp only [hasD, mayDocV] at h1
  simp at h1
  exact ⟨h1.1, h1.2.1⟩
theorem mayF_path {f : Flt} (h : mayF f = true) (hp : ¬ f.path.length = 0) : pathV f.path = true := by
  simp only [mayF, Bool.and_eq_true, Bool.or_eq_true, decide_eq_true_eq] at h
  exact h.1.2.resolve_left hp
theorem getP_doc {f : Flt} {e : Etr} (hf : mayF f = true) (he : mayE e = true) (hk : e.kind = 2) (hp : ¬ f.path.length = 0) : getP e.doc f.path = getV e.doc f.path := by
  obtain ⟨h1, h2⟩ := mayE_doc he hk
  unfold getP
  rw [if_pos ⟨h1, check_may h2, mayF_path hf hp⟩]
theorem match_at {f : Flt} {e : Etr} (hmf : mayF f = true) (hme : mayE e = true) (hk1 : ¬ e.kind = 1) (hkn : (decide (f.kinds = 0) || kindIn f.kinds e.kind) = true) (hco : ofCollV f e = true) : matchV f e = atPathV f e := by
  simp only [matchV, hmf, hme, hkn, hco, hk1, decide_false, Bool.not_false, Bool.and_true, Bool.true_and]
theorem o_ia_G {P : Program} {Θ : Tab} {K : SV → (Nat → Option AO) → Nat → Prop} {sl : Nat → SV} {o : Nat → Option AO} {nk : Nat} {x ix : Operand} {t e : Nat} {α : Type} {i j : TI} {z : Nat} {xs : List α} {g : α → D} {k : IntKind} {m : Nat} (d0 : α) (hx : ev sl x = .d (.sl z (xs.map g))) (hy : ev sl ix = .d (.int k (m : Int))) (hi : Θ t = some i) (hk : i.k = .slice e) (hj : Θ e = some j) (hz : z = j.sz) (hlt : m < xs.length) (h : K (.el (g (xs.getD m d0))) o nk) : vOp P Θ (.indexAddr t x ix) ⟨sl, o, nk⟩ K := o_ia_mapG d0 hx hy hi hk hj hz hlt h
theorem ent_bd {e : Etr} (h : D.bd (encE e)) : e.deltas.length ≤ 9223372036854775807 := by
  simp only [encE, D.bd, valCells, List.cons_append, List.nil_append, D.bds, List.length_map] at h
  exact h.2.2.2.2.2.2.2.2.2.2.2.2.2.2.1.1
instance : Inhabited Dlt := ⟨⟨0, [], zeroV, 0⟩⟩

theorem fn16 : FnOk Try.prog 16 27 [4] (bodyOf Try.f16) := ⟨Try.f16, Try.func16, by kernel_rfl, by decide, by kernel_rfl, by kernel_rfl⟩
theorem s16 (f : Flt) (e : Etr) : PSpec Try.prog 16 [.d (encF f), .d (encE e)] (.d (.bool (ofCollV f e))) := by
 refine PSpec.of fn16 (by simp) fun o nk => ?_
 refine wr ?_
 refine u_step (g_box rfl fun o2 hb2 hk2 => ?_)
 refine u_step (g_box rfl fun o3 hb3 hk3 => ?_)
 have hb2_3 := (hk3 _ (by omega)).trans hb2
 refine ua ?_
 refine u_nil ?_
 refine wr ?_
 refine uf th24 th9 hb2_3 ?_
 refine ul th9 hb2_3 ?_
 refine u_step (o_bin_str rfl (show _ = SV.d (.str []) from rfl) rfl ?_)
 refine um ?_
 apply gF
 · rfl
 · intro hg
   exact pf th30 th9 hb3
 apply gF
 · rfl
 · intro hg; try simp only [hg, ct]; try simp only [hg, ct, Bt]
   exact pl th9 hb3
 apply gF
 · rfl
 · intro hg
   exact pf th24 th9 hb2_3
 apply gF
 · rfl
 · intro hg; try simp only [hg, ct]; try simp only [hg, ct, Bt]
   exact pl th9 hb2_3
 apply gF
 · rfl
 · intro hg; try simp only [hg, ct]; try simp only [hg, ct, Bt]
   exact ps
 refine uO ?_
 refine um ?_
 apply gF
 · rfl
 · intro hg
   exact pf th30 th3 hb3
 apply gF
 · rfl
 · intro hg; try simp only [hg, ct]; try simp only [hg, ct, Bt]
   exact pl th3 hb3
 apply gF
 · rfl
 · intro hg; try simp only [hg, ct]; try simp only [hg, ct, Bt]
   exact pb
 apply gF
 · rfl
 · intro hg; try simp only [hg, ct]; try simp only [hg, ct, Bt]
   exact pm
 apply u_guard
 · exact GC.ct _ _
 · intro hg
   exact pf th30 th9 hb3
 apply u_guard
 · exact GC.ct _ _
 · intro hg; try simp only [hg, ct]; try simp only [hg, ct, Bt]
   exact pl th9 hb3
 apply u_guard
 · exact GC.ct _ _
 · intro hg
   exact pf th24 th9 hb2_3
 apply u_guard
 · exact GC.ct _ _
 · intro hg; try simp only [hg, ct]; try simp only [hg, ct, Bt]
   exact pl th9 hb2_3
 apply u_guard
 · exact GC.ct _ _
 · intro hg; try simp only [hg, ct]; try simp only [hg, ct, Bt]
   exact ps
 apply gF
 · rfl
 · intro hg; try simp only [hg, ct]; try simp only [hg, ct, Bt]
   exact pA
 refine uO ?_
 refine ua ?_
 refine u_nil ?_
 refine WP.ret ?_
 refine ret_ok rfl ?_ (by omega) (fun t ht => (hk3 t (by omega)).trans ((hk2 t (by omega))))
 -- ret 1
 refine congrArg D.bool ?_
 simp only [ofCollV]
 rw [Bool.eq_iff_iff]
 simp only [Bool.or_eq_true, Bool.and_eq_true, decide_eq_true_eq, beq_iff_eq]

theorem fn17 : FnOk Try.prog 17 34 [4] (bodyOf Try.f17) := ⟨Try.f17, Try.func17, by kernel_rfl, by decide, by kernel_rfl, by kernel_rfl⟩
theorem s17 (f : Flt) (e : Etr) (okf : OkF f) (ok : OkE e) : PSpec Try.prog 17 [.d (encF f), .d (encE e)] (.d (.bool (atPathV f e))) := by
 refine PSpec.of fn17 (by simp) fun o nk => ?_
 refine wr ?_
 refine u_step (g_box rfl fun o2 hb2 hk2 => ?_)
 refine u_step (g_box rfl fun o3 hb3 hk3 => ?_)
 have hb2_3 := (hk3 _ (by omega)).trans hb2
 refine ua ?_
 refine u_nil ?_
 refine WP.seq fun K4 hK4 => ?_
 refine WP.block ?_
 refine wr ?_
 refine uf th24 th22 hb2_3 ?_
 refine ul th22 hb2_3 ?_
 refine un th22 ?_
 refine ub ?_
 refine ua ?_
 refine u_nil ?_
 refine wc (fun hc6 => ?_) (fun hc6 => ?_) <;> try simp only [Q0, Q1, Q2, Q3, Q4, Q5, Q6, Q7, Q8, ge_iff_le, gt_iff_lt] at hc6
 ·
  refine wr ?_
  refine ua ?_
  refine u_nil ?_
  refine WP.ret ?_
  refine ret_ok rfl ?_ (by omega) (fun t ht => (hk3 t (by omega)).trans ((hk2 t (by omega))))
  -- ret 1
  clear hK4
  refine congrArg D.bool ?_
  simp only [atPathV, List.length_map] at *
  grind
 ·
  refine wr ?_
  refine uf th30 th3 hb3 ?_
  refine ul th3 hb3 ?_
  refine ub ?_
  refine ua ?_
  refine u_nil ?_
  refine wc (fun hc9 => ?_) (fun hc9 => ?_) <;> try simp only [Q0, Q1, Q2, Q3, Q4, Q5, Q6, Q7, Q8, ge_iff_le, gt_iff_lt] at hc9
  ·
   refine wr ?_
   refine uf th30 th27 hb3 ?_
   refine ug th27 hb3 ?_
   refine uf th24 th22 hb2_3 ?_
   refine ul th22 hb2_3 ?_
   refine u_step (o_pcall (pv2 (v := e.doc) (s38 e.doc f.path ok.sd)) rfl ?_)
   refine u_step (o_moveV (v := .tup _) rfl ?_)
   refine ue ?_
   refine ue ?_
   refine u_step (g_alloc th27 rfl fun o11 hb11 hk11 => ?_)
   have hb2_11 := (hk11 _ (by omega)).trans hb2_3
   have hb3_11 := (hk11 _ (by omega)).trans hb3
   refine u_step0 (g_sta rfl (congrArg SV.d (encV_eq _)) th27 rfl hb11 (by simp [valCells]) fun o12 hb12 hk12 => ?_)
   have hb2_12 := (hk12 _ (by omega)).trans hb2_11
   have hb3_12 := (hk12 _ (by omega)).trans hb3_11
   refine ua ?_
   refine u_nil ?_
   refine wr ?_
   refine um ?_
   refine ua ?_
   refine u_nil ?_
   refine WP.ret ?_
   refine ret_ok rfl ?_ (by omega) (fun t ht => (hk12 t (by omega)).trans ((hk11 t (by omega)).trans ((hk3 t (by omega)).trans ((hk2 t (by omega))))))
   -- ret 2
   clear hK4
   refine congrArg D.bool ?_
   simp only [atPathV, List.length_map] at *
   grind
  ·
   refine wr ?_
   refine uf th30 th3 hb3 ?_
   refine ul th3 hb3 ?_
   refine ub ?_
   refine ua ?_
   refine u_nil ?_
   refine wc (fun hc15 => ?_) (fun hc15 => ?_) <;> try simp only [Q0, Q1, Q2, Q3, Q4, Q5, Q6, Q7, Q8, ge_iff_le, gt_iff_lt] at hc15
   ·
    refine wr ?_
    refine uf th30 th28 hb3 ?_
    refine ul th28 hb3 ?_
    refine uf th24 th22 hb2_3 ?_
    refine ul th22 hb2_3 ?_
    refine u_step (o_pcall (s32 e.deltas f.path) rfl ?_)
    refine ua ?_
    refine u_nil ?_
    refine WP.ret ?_
    refine ret_ok rfl ?_ (by omega) (fun t ht => (hk3 t (by omega)).trans ((hk2 t (by omega))))
    -- ret 3
    clear hK4
    refine congrArg D.bool ?_
    simp only [atPathV, List.length_map] at *
    grind
   ·
    refine WP.skip ?_
    refine hK4 _ ?_
    refine wr ?_
    refine ua ?_
    refine u_nil ?_
    refine WP.ret ?_
    refine ret_ok rfl ?_ (by omega) (fun t ht => (hk3 t (by omega)).trans ((hk2 t (by omega))))
    -- ret 4
    clear hK4
    refine congrArg D.bool ?_
    simp only [atPathV, List.length_map] at *
    grind

theorem fn6 : FnOk Try.prog 6 36 [4] (bodyOf Try.f6) := ⟨Try.f6, Try.func6, by kernel_rfl, by decide, by kernel_rfl, by kernel_rfl⟩
theorem s6 (f : Flt) (e : Etr) (okf : OkF f) (ok : OkE e) : PSpec Try.prog 6 [.d (encF f), .d (encE e)] (.d (.bool (matchV f e))) := by
 refine PSpec.of fn6 (by simp) fun o nk => ?_
 refine wr ?_
 refine u_step (g_box rfl fun o2 hb2 hk2 => ?_)
 refine u_step (g_box rfl fun o3 hb3 hk3 => ?_)
 have hb2_3 := (hk3 _ (by omega)).trans hb2
 refine ua ?_
 refine u_nil ?_
 refine WP.seq fun K4 hK4 => ?_
 refine wd ?_
 refine dg th24 hb2_3 ?_
 refine dg th30 hb3 ?_
 refine d_step (o_pcall (s15 f e okf ok) rfl ⟨rfl, rfl, rfl⟩) ?_
 refine dN ?_
 refine dm ?_
 apply d_guard
 · exact GC.f _
 · intro hg
   exact pf th30 th3 hb3
 apply d_guard
 · exact GC.f _
 · intro hg; try simp only [hg, ct]; try simp only [hg, ct, Bt]
   exact pl th3 hb3
 apply d_guard
 · exact GC.f _
 · intro hg; try simp only [hg, ct]; try simp only [hg, ct, Bt]
   exact pb
 refine dO ?_
 refine dm ?_
 apply d_guard
 · exact GC.f _
 · intro hg
   exact pf th24 th3 hb2_3
 apply d_guard
 · exact GC.f _
 · intro hg; try simp only [hg, ct]; try simp only [hg, ct, Bt]
   exact pl th3 hb2_3
 apply d_guard
 · exact GC.f _
 · intro hg; try simp only [hg, ct]; try simp only [hg, ct, Bt]
   exact pb
 apply d_guard
 · exact GC.f _
 · intro hg; try simp only [hg, ct]; try simp only [hg, ct, Bt]
   exact pm
 apply d_guard
 · exact GC.ct _ _
 · intro hg
   exact pf th24 th3 hb2_3
 apply d_guard
 · exact GC.ct _ _
 · intro hg; try simp only [hg, ct]; try simp only [hg, ct, Bt]
   exact pl th3 hb2_3
 apply d_guard
 · exact GC.ct _ _
 · intro hg
   exact pf th30 th3 hb3
 apply d_guard
 · exact GC.ct _ _
 · intro hg; try simp only [hg, ct]; try simp only [hg, ct, Bt]
   exact pl th3 hb3
 apply d_guard
 · exact GC.ct _ _
 · intro hg; try simp only [hg, ct]; try simp only [hg, ct, Bt]
   have hg2 := hg; try simp only [Q0, Q1, Q2, Q3, Q4, Q5, Q6, Q9, Qa, Qb, Qc, Qd] at hg2
   refine o_bin_sh rfl rfl (shl1 (by have hke := hg2; (have hme : mayE e = true := by simp_all); have := mayE_kind hme; omega) (by have hke := hg2; (have hme : mayE e = true := by simp_all); have := mayE_kind hme; omega)) ⟨rfl, rfl, rfl⟩
 apply d_guard
 · exact GC.ct _ _
 · intro hg; try simp only [hg, ct]; try simp only [hg, ct, Bt]
   exact pb
 apply d_guard
 · exact GC.ct _ _
 · intro hg; try simp only [hg, ct]; try simp only [hg, ct, Bt]
   exact pb
 apply d_guard
 · exact GC.f _
 · intro hg; try simp only [hg, ct]; try simp only [hg, ct, Bt]
   exact pA
 refine dO ?_
 refine d_nil ?_
 refine wc (fun hc6 => ?_) (fun hc6 => ?_) <;> try simp only [Q0, Q1, Q2, Q3, Q4, Q5, Q6, Q7, Q8, ge_iff_le, gt_iff_lt] at hc6
 ·
  refine wr ?_
  refine ua ?_
  refine u_nil ?_
  refine WP.ret ?_
  refine ret_ok rfl ?_ (by omega) (fun t ht => (hk3 t (by omega)).trans ((hk2 t (by omega))))
  -- ret 1
  clear hK4
  refine congrArg D.bool ?_
  have ha : mayF f = true → mayE e = true → (bitsOf .and .i64 f.kinds ((2 ^ e.kind.toNat : Nat) : Int) == 0) = !kindIn f.kinds e.kind := fun h1 h2 => by have q1 := mayF_kinds h1; have q2 := mayE_kind h2; exact and_kind q1.1 q1.2 (by omega) (by omega)
  simp only [matchV] at *
  grind
 ·
  refine WP.skip ?_
  refine hK4 _ ?_
  refine wr ?_
  refine ug th24 hb2_3 ?_
  refine ug th30 hb3 ?_
  refine u_step (o_pcall (s16 f e) rfl ?_)
  refine um ?_
  apply gT
  · rfl
  · intro hg
    exact pg th24 hb2_3
  apply gT
  · rfl
  · intro hg
    exact pg th30 hb3
  apply gT
  · rfl
  · intro hg; try simp only [hg, ct]; try simp only [hg, ct, Bt]
    refine o_pcall (s17 f e okf ok) rfl ⟨rfl, rfl, rfl⟩
  refine uA ?_
  refine ua ?_
  refine u_nil ?_
  refine WP.ret ?_
  refine ret_ok rfl ?_ (by omega) (fun t ht => (hk3 t (by omega)).trans ((hk2 t (by omega))))
  -- ret 2
  clear hK4
  refine congrArg D.bool ?_
  have ha : mayF f = true → mayE e = true → (bitsOf .and .i64 f.kinds ((2 ^ e.kind.toNat : Nat) : Int) == 0) = !kindIn f.kinds e.kind := fun h1 h2 => by have q1 := mayF_kinds h1; have q2 := mayE_kind h2; exact and_kind q1.1 q1.2 (by omega) (by omega)
  simp only [matchV] at *
  grind

theorem fn20 : FnOk Try.prog 20 32 [4] (bodyOf Try.f20) := ⟨Try.f20, Try.func20, by kernel_rfl, by decide, by kernel_rfl, by kernel_rfl⟩
theorem s20 (f : Flt) (e : Etr) (okf : OkF f) (ok : OkE e) : PSpec Try.prog 20 [.d (encF f), .d (encE e)] (.d (.bool (endsV f e))) := by
 refine PSpec.of fn20 (by simp) fun o nk => ?_
 refine wr ?_
 refine u_step (g_box rfl fun o2 hb2 hk2 => ?_)
 refine u_step (g_box rfl fun o3 hb3 hk3 => ?_)
 have hb2_3 := (hk3 _ (by omega)).trans hb2
 refine ua ?_
 refine u_nil ?_
 refine wr ?_
 refine uf th30 th3 hb3 ?_
 refine ul th3 hb3 ?_
 refine ub ?_
 refine um ?_
 apply gF
 · rfl
 · intro hg
   exact pf th30 th3 hb3
 apply gF
 · rfl
 · intro hg; try simp only [hg, ct]; try simp only [hg, ct, Bt]
   exact pl th3 hb3
 apply gF
 · rfl
 · intro hg; try simp only [hg, ct]; try simp only [hg, ct, Bt]
   exact pb
 refine uO ?_
 refine ua ?_
 refine u_nil ?_
 refine wr ?_
 refine ug th24 hb2_3 ?_
 refine ug th30 hb3 ?_
 refine u_step (o_pcall (s15 f e okf ok) rfl ?_)
 refine um ?_
 apply gT
 · rfl
 · intro hg
   exact pf th24 th9 hb2_3
 apply gT
 · rfl
 · intro hg; try simp only [hg, ct]; try simp only [hg, ct, Bt]
   exact pl th9 hb2_3
 apply gT
 · rfl
 · intro hg; try simp only [hg, ct]; try simp only [hg, ct, Bt]
   refine o_bin_str rfl (show _ = SV.d (.str []) from rfl) rfl ⟨rfl, rfl, rfl⟩
 refine uA ?_
 refine um ?_
 apply gT
 · rfl
 · intro hg
   exact pm
 refine uA ?_
 refine um ?_
 apply gT
 · rfl
 · intro hg
   exact pf th30 th9 hb3
 apply gT
 · rfl
 · intro hg; try simp only [hg, ct]; try simp only [hg, ct, Bt]
   exact pl th9 hb3
 apply gT
 · rfl
 · intro hg
   exact pf th24 th9 hb2_3
 apply gT
 · rfl
 · intro hg; try simp only [hg, ct]; try simp only [hg, ct, Bt]
   exact pl th9 hb2_3
 apply gT
 · rfl
 · intro hg; try simp only [hg, ct]; try simp only [hg, ct, Bt]
   exact ps
 refine uA ?_
 refine ua ?_
 refine u_nil ?_
 refine WP.ret ?_
 refine ret_ok rfl ?_ (by omega) (fun t ht => (hk3 t (by omega)).trans ((hk2 t (by omega))))
 -- ret 1
 skip
 refine congrArg D.bool ?_
 simp only [endsV] at *
 grind

end Go.Proofs.Ytpkcbdhjnnnkbaa.Abs

set_option linter.unusedVariables false
set_option linter.unusedSimpArgs false
set_option maxRecDepth 10000
namespace Go.Proofs.Ytpkcbdhjnnnkbaa.Abs
open Go
mutual
/-- How many values there are, up to a bound. -/
def nodesN : Val → Nat → Nat
  | .mk _ _ _ xs ns, d => if 40 < d then 1048576 else nodesL xs d (1 + ns.length)
def nodesL : List Val → Nat → Nat → Nat
  | [], _, n => n
  | x :: xs, d, n => if n < 65536 then nodesL xs d (n + nodesN x (d + 1)) else n
end
mutual
theorem nodesN_le : ∀ (v : Val) (d : Nat), nodesN v d ≤ 1048576 * szV v
  | .mk k i t xs ns, d => by
    have h1 := nodesL_le xs d (1 + ns.length)
    have h2 := szN_len ns
    simp only [nodesN, szV]
    split <;> omega
theorem nodesL_le : ∀ (xs : List Val) (d n : Nat), nodesL xs d n ≤ n + 1048576 * szVs xs
  | [], _, n => by simp [nodesL, szVs]
  | x :: xs, d, n => by
    have h1 := nodesN_le x (d + 1)
    have h2 := nodesL_le xs d (n + nodesN x (d + 1))
    simp only [nodesL, szVs]
    split <;> omega
end
theorem nodesL_at {xs : List Val} {i d n : Nat} (h : i < xs.length) (hn : n < 65536) : nodesL (xs.drop i) d n = nodesL (xs.drop (i + 1)) d (n + nodesN (xs[i]'h) (d + 1)) := by
  rw [List.drop_eq_getElem_cons h, nodesL, if_pos hn]
theorem nodesL_full {xs : List Val} {i d n : Nat} (hi : i ≤ xs.length) (h : ¬ (i < xs.length ∧ n < 65536)) : nodesL (xs.drop i) d n = n := by
  by_cases hx : i < xs.length
  · rw [List.drop_eq_getElem_cons hx, nodesL, if_neg (by omega)]
  · have e : xs.drop i = [] := List.drop_eq_nil_of_le (by omega)
    rw [e, nodesL]
theorem wr_arg {P : Program} {f : FuncId} {x : SV} {m : Int} {c : Nat} {r : SV} (h : PSpec P f [x, .d (.int .i64 (c : Int))] r) (e : m = (c : Int)) : PSpec P f [x, .d (.int .i64 m)] r := by rw [e]; exact h
theorem ltN (k n : Nat) : decide ((k : Int) < (n : Int)) = decide (k < n) := by
  rw [Bool.eq_iff_iff]; simp only [decide_eq_true_eq]; omega
theorem lt50 (n : Nat) : decide ((50 : Int) < (n : Int)) = decide (50 < n) := ltN 50 n
def largeV (v : Val) : Bool := decide (3000 < nodesN v 0)
def largeD (l : List Dlt) : Bool := (l.take 70).any (fun d => largeV d.value || decide (50 < d.path.length)) || decide (100 < l.length)
def largeE (e : Etr) : Bool := largeV e.id || largeV e.doc || largeD e.deltas
def largeF (f : Flt) (e : Etr) : Bool := decide (50 < f.path.length) || largeE e
theorem szVs_take : ∀ (xs : List Val) (i : Nat), szVs (xs.take i) ≤ szVs xs
  | [], i => by simp [szVs]
  | x :: xs, 0 => by simp [szVs]
  | x :: xs, i + 1 => by
    have := szVs_take xs i
    simp only [List.take_succ_cons, szVs]; omega
theorem szVs_snoc : ∀ {xs : List Val} {i : Nat} (h : i < xs.length), szVs (xs.take (i + 1)) = szVs (xs.take i) + szV (xs[i]'h)
  | x :: xs, 0, _ => by simp [szVs]
  | x :: xs, i + 1, h => by
    have := szVs_snoc (xs := xs) (i := i) (by simpa using h)
    simp only [List.take_succ_cons, szVs, this, List.getElem_cons_succ]; omega
theorem take70 {l : List Dlt} {p : Dlt → Bool} {i : Nat} (hi : i ≤ l.length) (h : ∀ (j : Nat) (hj : j < l.length), j < i → p l[j] = false) (he : ¬ (i < l.length ∧ i < 70)) : (l.take 70).any p = false := by
  rw [List.any_eq_false]
  intro x hx
  obtain ⟨j, hj, rfl⟩ := List.mem_iff_getElem.1 hx
  rw [List.getElem_take]
  simp at hj
  rw [h j (by omega) (by omega)]; simp
theorem take70t {l : List Dlt} {p : Dlt → Bool} {i : Nat} (hi : i < l.length) (h7 : i < 70) (hp : p (l[i]'hi) = true) : (l.take 70).any p = true :=
  List.any_eq_true.2 ⟨l[i], List.mem_iff_getElem.2 ⟨i, by simp; omega, by rw [List.getElem_take]⟩, hp⟩

theorem fn22 : FnOk Try.prog 22 35 [4] (bodyOf Try.f22) := ⟨Try.f22, Try.func22, by kernel_rfl, by decide, by kernel_rfl, by kernel_rfl⟩
theorem s22A (m : Nat) : ∀ (v : Val) (d : Nat), SizeOf.sizeOf v < m → szV v ≤ 1099511627776 → d ≤ 41 → PSpec Try.prog 22 [.d (encV v), .d (.int .i64 (d : Int))] (.d (.int .i64 (nodesN v d : Nat))) := by
 induction m with
 | zero => intros; omega
 | succ m ih =>
  rintro ⟨kd, it, tx, xs, ns⟩ d hv hsz hd
  have hsz2 : 1 + tx.length + szVs xs + szN ns ≤ 1099511627776 := hsz
  have hxl := szVs_len xs
  have hnl := szN_len ns
  have hln := encVs_length xs
  refine PSpec.of fn22 (by simp) fun o nk => ?_
  refine wr ?_
  refine u_step (g_box rfl fun o2 hb2 hk2 => ?_)
  refine ua ?_
  refine u_nil ?_
  refine WP.seq fun K3 hK3 => ?_
  refine wr ?_
  refine um ?_
  refine ub ?_
  refine u_nil ?_
  refine wc (fun hc5 => ?_) (fun hc5 => ?_) <;> try simp only [Q0, Q1, Q2, Q3, Q4, Q5, Q6, Q7, Q8, ge_iff_le, gt_iff_lt] at hc5
  ·
   refine wr ?_
   refine ua ?_
   refine u_nil ?_
   refine WP.ret ?_
   refine ret_ok rfl ?_ (by omega) (fun t ht => (hk2 t (by omega)))
   -- ret 1
   clear hK3
   refine congrArg (D.int .i64) ?_
   have hq : 40 < d := by have := hc5; (try simp at this); omega
   rw [nodesN, if_pos hq]; rfl
  ·
   have hd40 : ¬ 40 < d := by have := hc5; (try simp at this); omega
   refine WP.skip ?_
   refine hK3 _ ?_
   refine wr ?_
   refine uf th27 th22 hb2 ?_
   refine ul th22 hb2 ?_
   refine un th22 ?_
   refine ub ?_
   refine ua ?_
   refine u_nil ?_
   refine WP.seq fun K8 hK8 => ?_
   refine wr ?_
   refine ua ?_
   refine u_nil ?_
   refine WP.block ?_
   refine WP.loopL (ι := Nat × Nat) (fun ⟨i, n⟩ => ⟨al [(1, .d (.int .i64 (d : Int))), (2, .loc nk 0), (5, .d (.int .i64 (n : Nat))), (6, .d (.int .i64 i))], o2, (nk + 1)⟩) (fun ⟨i, n⟩ => i ≤ xs.length ∧ n ≤ 1 + ns.length + 1048576 * szVs (xs.take i) ∧ nodesL (xs.drop i) d n = nodesL xs d (1 + ns.length)) (fun ⟨i, n⟩ => xs.length - i) (fun ⟨i, n⟩ hA => ?_) ⟨0, 1 + ns.length⟩ ?_ ?_
   ·
    obtain ⟨hle, hnb, hnn⟩ := hA
    refine WP.seq fun K10 hK10 => ?_
    refine wr ?_
    refine um ?_
    refine uf th27 th25 hb2 ?_
    refine ul th25 hb2 ?_
    refine un th25 ?_
    refine ub ?_
    refine um ?_
    apply gT
    · rfl
    · intro hg
      exact pm
    apply gT
    · rfl
    · intro hg; try simp only [hg, ct]; try simp only [hg, ct, Bt]
      exact pb
    refine uA ?_
    refine u_nil ?_
    refine wc (fun hc12 => ?_) (fun hc12 => ?_) <;> try simp only [Q0, Q1, Q2, Q3, Q4, Q5, Q6, Q7, Q8, ge_iff_le, gt_iff_lt] at hc12
    ·
     have hin2 : i < xs.length ∧ n < 65536 := by have := hc12; (try simp [encVs_length] at this); omega
     refine WP.skip ?_
     refine hK10 _ ?_
     refine WP.seq fun K13 hK13 => ?_
     refine WP.block ?_
     refine WP.reg tabOk rfl ?_
     refine um ?_
     refine uf th27 th25 hb2 ?_
     refine ul th25 hb2 ?_
     refine um ?_
     first | refine u_step (o_ia_map rfl rfl th25 rfl th27 rfl (by omega) ?_) | refine u_step (o_ia_vs rfl rfl th25 rfl th27 rfl (by omega) ?_)
     refine uL th27 ?_
     refine um ?_
     refine ub ?_
     refine u_step (o_pcall (wr_arg (c := d + 1) (ih xs[i] (d + 1) (by exact items_lt' (by omega) hv) (by have := szVs_get (xs := xs) (j := i) (by omega); omega) (by omega)) (by rw [wrap_i64 (by omega) (by omega)]; omega)) rfl ?_)
     refine ub ?_
     refine ua ?_
     refine u_nil ?_
     refine hK13 _ ?_
     refine WP.reg tabOk rfl ?_
     refine um ?_
     refine ub ?_
     refine ua ?_
     refine u_nil ?_
     -- back
     have hb1 := nodesN_le xs[i] (d + 1)
     have hb2 := szVs_snoc (xs := xs) (i := i) (by omega)
     have hb3 := szVs_take xs (i + 1)
     refine ⟨⟨i + 1, n + nodesN xs[i] (d + 1)⟩, ⟨by omega, by omega, ?_⟩, by simp only; omega, ?_⟩
     · rw [← hnn, nodesL_at hin2.1 hin2.2]
     · refine Le.al ?_
       simp only [List.forall_mem_cons]
       exact ⟨rfl, rfl, add_w rfl (by omega), cnt (by omega), by simp⟩
    ·
     have hin2 : ¬ (i < xs.length ∧ n < 65536) := by have := hc12; (try simp [encVs_length] at this); omega
     refine WP.exit ?_
     refine hK8 _ ?_
     refine wr ?_
     refine um ?_
     refine ua ?_
     refine u_nil ?_
     refine WP.ret ?_
     refine ret_ok rfl ?_ (by omega) (fun t ht => (hk2 t (by omega)))
     -- ret 2
     clear hK3 hK8 hK10
     refine congrArg (D.int .i64) ?_
     rw [nodesN, if_neg hd40, ← hnn, nodesL_full hle hin2]
   ·
    exact ⟨by omega, by omega, rfl⟩
   ·
    refine Le.al ?_
    simp only [List.forall_mem_cons]
    refine ⟨rfl, rfl, ?_, rfl, by simp⟩
    have hw : IntKind.i64.wrap (1 + ((ns.map D.str).length : Int)) = ((1 + ns.length : Nat) : Int) := by rw [List.length_map, wrap_i64 (by omega) (by omega)]; omega
    rw [← hw]; rfl
theorem s22 (v : Val) (d : Nat) (hsz : szV v ≤ 1099511627776) (hd : d ≤ 41) : PSpec Try.prog 22 [.d (encV v), .d (.int .i64 (d : Int))] (.d (.int .i64 (nodesN v d : Nat))) := s22A _ v d (Nat.lt_succ_self _) hsz hd

theorem fn9 : FnOk Try.prog 9 6 [2] (bodyOf Try.f9) := ⟨Try.f9, Try.func9, by kernel_rfl, by decide, by kernel_rfl, by kernel_rfl⟩
theorem s9 (v : Val) (hsz : szV v ≤ 1099511627776) : PSpec Try.prog 9 [.d (encV v)] (.d (.bool (largeV v))) := by
 obtain ⟨kd, it, tx, xs, ns⟩ := v
 refine PSpec.of fn9 (by simp) fun o nk => ?_
 refine wr ?_
 refine u_step (g_box rfl fun o2 hb2 hk2 => ?_)
 refine ua ?_
 refine u_nil ?_
 refine wr ?_
 refine ug th27 hb2 ?_
 refine u_step (o_pcall (s22 (.mk kd it tx xs ns) 0 hsz (by omega)) rfl ?_)
 refine ub ?_
 refine ua ?_
 refine u_nil ?_
 refine WP.ret ?_
 refine ret_ok rfl ?_ (by omega) (fun t ht => (hk2 t (by omega)))
 -- ret 1
 refine congrArg D.bool ?_
 unfold largeV
 rw [Bool.eq_iff_iff]
 simp only [decide_eq_true_eq]
 omega

theorem fn8 : FnOk Try.prog 8 32 [2] (bodyOf Try.f8) := ⟨Try.f8, Try.func8, by kernel_rfl, by decide, by kernel_rfl, by kernel_rfl⟩
theorem s8 (l : List Dlt) (hl : ∀ d ∈ l, szV d.value ≤ 1099511627776) : PSpec Try.prog 8 [.d (.sl 8 (l.map encD))] (.d (.bool (largeD l))) := by
 refine PSpec.bd fun hbd => ?_
 have hx : l.length ≤ 9223372036854775807 := by simpa using hbd.1.1
 refine PSpec.of fn8 (by simp) fun o nk => ?_
 refine wr ?_
 refine ua ?_
 refine u_nil ?_
 refine WP.seq fun K2 hK2 => ?_
 refine wr ?_
 refine ua ?_
 refine u_nil ?_
 refine WP.block ?_
 refine WP.loopL (ι := Nat) (fun i => ⟨al [(0, .d (.sl 8 (l.map encD))), (3, .d (.int .i64 i))], o, nk⟩) (fun i => i ≤ l.length ∧ ∀ (j : Nat) (hj : j < l.length), j < i → (largeV l[j].value || decide (50 < l[j].path.length)) = false) (fun i => l.length - i) (fun i hA => ?_) 0 ?_ ?_
 ·
  obtain ⟨hle_i, hin_i⟩ := hA
  refine WP.seq fun K4 hK4 => ?_
  refine wr ?_
  refine um ?_
  refine um ?_
  refine un th28 ?_
  refine ub ?_
  refine um ?_
  apply gT
  · rfl
  · intro hg
    exact pm
  apply gT
  · rfl
  · intro hg; try simp only [hg, ct]; try simp only [hg, ct, Bt]
    exact pb
  refine uA ?_
  refine u_nil ?_
  refine wc (fun hc6 => ?_) (fun hc6 => ?_) <;> try simp only [Q0, Q1, Q2, Q3, Q4, Q5, Q6, Q7, Q8, ge_iff_le, gt_iff_lt] at hc6
  ·
   have hin2 : i < l.length ∧ i < 70 := by have := hc6; (try simp at this); omega
   have hil := hin2.1
   have hgd : l.getD i default = l[i] := by simp [hil]
   refine WP.skip ?_
   refine hK4 _ ?_
   refine WP.seq fun K7 hK7 => ?_
   refine WP.block ?_
   refine wr ?_
   refine um ?_
   refine um ?_
   refine u_step (o_ia_G (xs := l) default rfl rfl th28 rfl th46 rfl hin2.1 ?_)
   refine uF th46 th27 ?_
   refine uL th27 ?_
   refine u_step (o_pcall (pv (v := (l.getD i default).value) (s9 _ (by rw [hgd]; exact hl _ (List.getElem_mem _)))) rfl ?_)
   refine um ?_
   apply gF
   · rfl
   · intro hg
     exact pm
   apply gF
   · rfl
   · intro hg
     exact pm
   apply gF
   · rfl
   · intro hg; try simp only [hg, ct]; try simp only [hg, ct, Bt]
     refine o_ia_G (xs := l) default rfl rfl th28 rfl th46 rfl hin2.1 ⟨rfl, rfl, rfl⟩
   apply gF
   · rfl
   · intro hg; try simp only [hg, ct]; try simp only [hg, ct, Bt]
     exact pF th46 th22
   apply gF
   · rfl
   · intro hg; try simp only [hg, ct]; try simp only [hg, ct, Bt]
     exact pL th22
   apply gF
   · rfl
   · intro hg; try simp only [hg, ct]; try simp only [hg, ct, Bt]
     exact pn th22
   apply gF
   · rfl
   · intro hg; try simp only [hg, ct]; try simp only [hg, ct, Bt]
     exact pb
   refine uO ?_
   refine u_nil ?_
   refine wc (fun hc9 => ?_) (fun hc9 => ?_) <;> try simp only [Q0, Q1, Q2, Q3, Q4, Q5, Q6, Q7, Q8, ge_iff_le, gt_iff_lt] at hc9
   ·
    refine wr ?_
    refine ua ?_
    refine u_nil ?_
    refine WP.ret ?_
    refine ret_ok rfl ?_ (by omega) (fun _ _ => rfl)
    -- ret 1
    clear hK2 hK4 hK7
    refine congrArg D.bool ?_
    have hlq := hc9
    unfold largeD
    rw [take70t (p := fun d => largeV d.value || decide (50 < d.path.length)) hin2.1 hin2.2 (by rw [hgd] at hlq; simpa only [List.length_map, lt50] using hlq)]; rfl
   ·
    refine WP.skip ?_
    refine hK7 _ ?_
    refine WP.reg tabOk rfl ?_
    refine um ?_
    refine ub ?_
    refine ua ?_
    refine u_nil ?_
    -- back
    refine ⟨i + 1, ⟨by omega, ?_⟩, by omega, ?_⟩
    · intro j hj h1
      by_cases h2 : j = i
      · subst h2; have hlq := hc9; rw [hgd] at hlq; simpa only [List.length_map, lt50] using hlq
      · exact hin_i j hj (by omega)
    · refine Le.al ?_
      simp only [List.forall_mem_cons]
      exact ⟨rfl, cnt (by omega), by simp⟩
  ·
   have hin2 : ¬ (i < l.length ∧ i < 70) := by have := hc6; (try simp at this); omega
   refine WP.exit ?_
   refine hK2 _ ?_
   refine wr ?_
   refine um ?_
   refine un th28 ?_
   refine ub ?_
   refine ua ?_
   refine u_nil ?_
   refine WP.ret ?_
   refine ret_ok rfl ?_ (by omega) (fun _ _ => rfl)
   -- ret 2
   clear hK2 hK4
   refine congrArg D.bool ?_
   unfold largeD
   rw [take70 (p := fun d => largeV d.value || decide (50 < d.path.length)) hle_i hin_i hin2, Bool.eq_iff_iff]
   simp
   omega
 ·
  simp
 ·
  refine Le.al ?_
  simp only [List.forall_mem_cons]
  exact ⟨rfl, rfl, by simp⟩

theorem fn14 : FnOk Try.prog 14 16 [2] (bodyOf Try.f14) := ⟨Try.f14, Try.func14, by kernel_rfl, by decide, by kernel_rfl, by kernel_rfl⟩
theorem s14 (e : Etr) (ok : OkE e) (okd : ∀ d ∈ e.deltas, szV d.value ≤ 1099511627776) : PSpec Try.prog 14 [.d (encE e)] (.d (.bool (largeE e))) := by
 refine PSpec.of fn14 (by simp) fun o nk => ?_
 refine wr ?_
 refine u_step (g_box rfl fun o2 hb2 hk2 => ?_)
 refine ua ?_
 refine u_nil ?_
 refine wr ?_
 refine uf th30 th27 hb2 ?_
 refine ug th27 hb2 ?_
 refine u_step (o_pcall (pv (v := e.id) (s9 e.id ok.si)) rfl ?_)
 refine um ?_
 apply gF
 · rfl
 · intro hg
   exact pf th30 th27 hb2
 apply gF
 · rfl
 · intro hg; try simp only [hg, ct]; try simp only [hg, ct, Bt]
   exact pg th27 hb2
 apply gF
 · rfl
 · intro hg; try simp only [hg, ct]; try simp only [hg, ct, Bt]
   refine o_pcall (pv (v := e.doc) (s9 e.doc ok.sd)) rfl ⟨rfl, rfl, rfl⟩
 refine uO ?_
 refine um ?_
 apply gF
 · rfl
 · intro hg
   exact pf th30 th28 hb2
 apply gF
 · rfl
 · intro hg; try simp only [hg, ct]; try simp only [hg, ct, Bt]
   exact pl th28 hb2
 apply gF
 · rfl
 · intro hg; try simp only [hg, ct]; try simp only [hg, ct, Bt]
   refine o_pcall (s8 e.deltas okd) rfl ⟨rfl, rfl, rfl⟩
 refine uO ?_
 refine ua ?_
 refine u_nil ?_
 refine WP.ret ?_
 refine ret_ok rfl ?_ (by omega) (fun t ht => (hk2 t (by omega)))
 -- ret 1
 rfl

theorem fn5 : FnOk Try.prog 5 13 [4] (bodyOf Try.f5) := ⟨Try.f5, Try.func5, by kernel_rfl, by decide, by kernel_rfl, by kernel_rfl⟩
theorem s5 (f : Flt) (e : Etr) (ok : OkE e) (okd : ∀ d ∈ e.deltas, szV d.value ≤ 1099511627776) : PSpec Try.prog 5 [.d (encF f), .d (encE e)] (.d (.bool (largeF f e))) := by
 refine PSpec.of fn5 (by simp) fun o nk => ?_
 refine wr ?_
 refine u_step (g_box rfl fun o2 hb2 hk2 => ?_)
 refine u_step (g_box rfl fun o3 hb3 hk3 => ?_)
 have hb2_3 := (hk3 _ (by omega)).trans hb2
 refine ua ?_
 refine u_nil ?_
 refine wr ?_
 refine uf th24 th22 hb2_3 ?_
 refine ul th22 hb2_3 ?_
 refine un th22 ?_
 refine ub ?_
 refine um ?_
 apply gF
 · rfl
 · intro hg
   exact pg th30 hb3
 apply gF
 · rfl
 · intro hg; try simp only [hg, ct]; try simp only [hg, ct, Bt]
   refine o_pcall (s14 e ok okd) rfl ⟨rfl, rfl, rfl⟩
 refine uO ?_
 refine ua ?_
 refine u_nil ?_
 refine WP.ret ?_
 refine ret_ok rfl ?_ (by omega) (fun t ht => (hk3 t (by omega)).trans ((hk2 t (by omega))))
 -- ret 1
 refine congrArg D.bool ?_
 simp only [largeF, List.length_map, lt50]

end Go.Proofs.Ytpkcbdhjnnnkbaa.Abs

/- The row's opening: what is read as data is held by values; its closing: what was read is there still. -/
set_option linter.unusedVariables false
set_option linter.unusedSimpArgs false
namespace Go.Proofs.Ytpkcbdhjnnnkbaa.Abs
open Go
open Go.ChangeShapes Go.WideShapes Go.ChangeAt Go.RowKit Go.WideElems

def Sof (w : World) : Nat → Prop := fun k => k < w.heap.size
/-- Values, cell by cell. -/
def RdC (w : World) (xs : List D) (cs : List Value) : Prop := cs.length = xs.length ∧ ∀ (i : Nat) (x : D) (v : Value), xs[i]? = some x → cs[i]? = some v → Rd w (Sof w) x v
def D.cl : D → List D
  | .agg xs => xs
  | x => [x]
def D.ok1 : D → Prop
  | .agg xs => xs.all D.leaf = true
  | _ => True
theorem val_of {w : World} {x : D} {cs : List Value} (h : RdC w x.cl cs) (ho : x.ok1) : ∃ v : Value, v.cells.toList = cs ∧ Rd w (Sof w) x v := by
  obtain ⟨h1, h2⟩ := h
  by_cases hx : x.leaf = true
  · have hc : x.cl = [x] := by cases x <;> first | rfl | (simp [D.leaf] at hx)
    rw [hc] at h1 h2
    match cs, h1 with
    | [v], _ =>
      have hr := h2 0 x v rfl rfl
      exact ⟨v, by rw [hr.leaf_cells hx], hr⟩
  · cases x <;> simp [D.leaf] at hx
    rename_i xs
    exact ⟨.agg cs.toArray, by simp [Value.cells], .agg xs cs ho h1 h2⟩
theorem rdC_one {w : World} {x : D} {v : Value} (h : Rd w (Sof w) x v) : RdC w [x] [v] := by
  refine ⟨rfl, fun i y u h1 h2 => ?_⟩
  match i with
  | 0 => simp at h1 h2; subst h1; subst h2; exact h
  | i + 1 => simp at h1
theorem rdC_nil {w : World} {cs : List Value} {o : Nat} (h : cs.length = o) : RdC w [] (cs.drop o) := ⟨by simp [h], fun i x v h => by simp at h⟩
theorem rdC_cat {w : World} {xs ys : List D} {cs : List Value} {o n : Nat} (h1 : RdC w xs ((cs.drop o).take n)) (hn : xs.length = n) (h2 : RdC w ys (cs.drop (o + n))) : RdC w (xs ++ ys) (cs.drop o) := by
  obtain ⟨a1, a2⟩ := h1
  obtain ⟨b1, b2⟩ := h2
  have hl : n ≤ (cs.drop o).length := by simp at a1 ⊢; omega
  have he : cs.drop o = (cs.drop o).take n ++ cs.drop (o + n) := by rw [← List.drop_drop]; exact (List.take_append_drop n _).symm
  refine ⟨by simp at b1 hl ⊢; omega, fun i x v hx hv => ?_⟩
  rcases Nat.lt_or_ge i xs.length with h | h
  · rw [List.getElem?_append_left h] at hx
    exact a2 i x v hx (by rw [List.getElem?_take, if_pos (by omega)]; exact hv)
  · rw [List.getElem?_append_right h] at hx
    refine b2 (i - xs.length) x v hx ?_
    rw [List.getElem?_drop] at hv ⊢
    rw [show o + n + (i - xs.length) = o + i by omega]; exact hv

theorem list_of {α : Type} {Q : Nat → α → Prop} : ∀ n, (∀ i, i < n → ∃ a, Q i a) → ∃ l : List α, l.length = n ∧ ∀ i a, l[i]? = some a → Q i a
  | 0, _ => ⟨[], rfl, by simp⟩
  | n + 1, h => by
    obtain ⟨l, h1, h2⟩ := list_of n fun i hi => h i (by omega)
    obtain ⟨a, ha⟩ := h n (by omega)
    refine ⟨l ++ [a], by simp [h1], fun i b hb => ?_⟩
    rcases Nat.lt_or_ge i l.length with hi | hi
    · rw [List.getElem?_append_left hi] at hb; exact h2 i b hb
    · rw [List.getElem?_append_right hi] at hb
      have : i - l.length = 0 := by
        rcases Nat.eq_zero_or_pos (i - l.length) with h' | h'
        · exact h'
        · rw [List.getElem?_eq_none (by simp; omega)] at hb; cases hb
      rw [this] at hb
      simp at hb
      subst hb
      rw [show i = n by omega]; exact ha
theorem mapM_some {α β : Type} {f : α → Option β} : ∀ {l : List α} {r : List β}, l.mapM f = some r → r.length = l.length ∧ ∀ (i : Nat) (a : α), l[i]? = some a → f a = r[i]?
  | [], r, h => by
    simp at h; subst h; exact ⟨rfl, by simp⟩
  | a :: l, r, h => by
    rw [List.mapM_cons] at h
    simp only [Option.bind_eq_bind, Option.bind_eq_some_iff, Option.pure_def, Option.some.injEq] at h
    obtain ⟨b, hb, r', hr, rfl⟩ := h
    obtain ⟨h1, h2⟩ := mapM_some hr
    refine ⟨by simp [h1], fun i x hx => ?_⟩
    match i with
    | 0 => simp at hx; subst hx; simpa using hb
    | i + 1 => simpa using h2 i x (by simpa using hx)
theorem cells_some {w : World} {b n : Nat} {a : Addr} {cs : List Value} (h : w.cells? b a n = some cs) : cs.length = n ∧ ∀ j, j < n → w.cell? (a.add j) = cs[j]? := by
  unfold World.cells? at h
  split at h
  · obtain ⟨h1, h2⟩ := mapM_some h
    rw [List.length_range] at h1
    exact ⟨h1, fun j hj => h2 j j (by rw [List.getElem?_range hj])⟩
  · cases h

section
variable {H : Type} {enc : TypeId × Value → H} {P : Program} {w : World} {base fuel : Nat} {spare : Nat → Bool} {held : Bool} {t e : TypeId} {cs : List Value} {x : DataW H × List MemPlace}

/-- Elements and their data. -/
def All2 {α : Type} (A : α → DataW H → Prop) (l : List α) (es : List (DataW H)) : Prop := l.length = es.length ∧ ∀ (i : Nat) (a : α) (y : DataW H), l[i]? = some a → es[i]? = some y → A a y
def SlD {α : Type} (A : α → DataW H → Prop) (l : List α) (d : DataW H) : Prop := (d = .nil ∧ l = []) ∨ ∃ es sp, d = .slice es sp ∧ All2 A l es

theorem rd_slice {α : Type} {z : Nat} (encA : α → D) (A : α → DataW H → Prop) (hu : P.underlying t = some (.slice e)) (hz : P.cellsOf e = z) (hz0 : 0 < z) (hzA : ∀ a, (encA a).cl.length = z) (hok : ∀ a, (encA a).ok1)
    (h : DataW.trod enc P w base spare held fuel t cs = some x)
    (he : ∀ n cs x, n < fuel → DataW.trod enc P w base spare held n e cs = some x → ∃ a, RdC w (encA a).cl cs ∧ A a x.1) :
    ∃ l : List α, RdC w [.sl z (l.map encA)] cs ∧ SlD A l x.1 := by
  rcases DataW.trod_slice hu h with ⟨rfl, rfl⟩ | ⟨a, len, cap, elems, rest, n, hf, rfl, rfl, hb, hlc, hcm, hlen, hel, _⟩
  · exact ⟨[], rdC_one (.emp _ _ _ (by omega)), .inl ⟨rfl, rfl⟩⟩
  · rw [hz] at hel
    have key : ∀ i, i < len → ∃ p : α × Value, (∃ cs', w.cells? base (a.add (i * z)) z = some cs' ∧ p.2.cells.toList = cs') ∧ Rd w (Sof w) (encA p.1) p.2 ∧ ∀ y, elems[i]? = some y → A p.1 y.1 := by
      intro i hi
      have h1 := hel i hi
      rw [List.getElem?_eq_getElem (by omega)] at h1
      obtain ⟨cs', h2, h3⟩ := Option.bind_eq_some_iff.1 h1
      obtain ⟨b, h4, h5⟩ := he n cs' _ (by omega) h3
      obtain ⟨v, h6, h7⟩ := val_of h4 (hok b)
      refine ⟨(b, v), ⟨cs', h2, h6⟩, h7, fun y hy => ?_⟩
      rw [List.getElem?_eq_getElem (by omega)] at hy
      injection hy with hy
      rw [← hy]; exact h5
    obtain ⟨l, hl1, hl2⟩ := list_of len key
    refine ⟨l.map (·.1), ?_, .inr ⟨_, _, rfl, by simp [hl1, hlen], fun i b y hb' hy => ?_⟩⟩
    · refine rdC_one ?_
      rcases Nat.eq_zero_or_pos len with h0 | h0
      · have : l = [] := List.eq_nil_of_length_eq_zero (by omega)
        subst this
        subst h0
        exact .emp _ _ _ (by simpa [maxLen] using hcm)
      · have hS : Sof w a.block := by
          obtain ⟨p, ⟨cs', h1, _⟩, _⟩ := key 0 h0
          obtain ⟨h2, h3⟩ := cells_some h1
          have h4 := h3 0 hz0
          rw [List.getElem?_eq_getElem (by omega)] at h4
          have := World.block_lt_of_cell? w _ h4
          rwa [add_block, add_block] at this
        have hlm : ((l.map (·.1)).map encA).length = len := by simp [hl1]
        rw [← hlm]
        refine .sl z _ a cap (l.map (·.2)) (by omega) (by simpa [maxLen] using hcm) hS (by simp [hl1]) (fun i y v hy hv => ?_) (fun i v hv => ?_) (fun i j v u hv hu' => ?_)
        · rw [List.getElem?_map, List.getElem?_map] at hy
          rw [List.getElem?_map] at hv
          cases hp : l[i]? with
          | none => rw [hp] at hv; cases hv
          | some p =>
            rw [hp] at hy hv
            simp at hy hv
            subst hy; subst hv
            exact (hl2 i p hp).2.1
        · rw [List.getElem?_map] at hv
          obtain ⟨p, hp, rfl⟩ := Option.map_eq_some_iff.1 hv
          obtain ⟨⟨cs', h1, h2⟩, _, _⟩ := hl2 i p hp
          have := (cells_some h1).1
          rw [← h2] at this
          simpa using this
        · rw [List.getElem?_map] at hv
          obtain ⟨p, hp, rfl⟩ := Option.map_eq_some_iff.1 hv
          obtain ⟨⟨cs', h1, h2⟩, _, _⟩ := hl2 i p hp
          obtain ⟨h3, h4⟩ := cells_some h1
          have hj : j < p.2.cells.size := (Array.getElem?_eq_some_iff.1 hu').1
          have hjz : j < z := by
            rw [← h2] at h3
            simp at h3
            omega
          have h5 := h4 j hjz
          rw [Addr_add_add] at h5
          rw [h5, ← h2]
          simpa using hu'
    · rw [List.getElem?_map] at hb' hy
      obtain ⟨p, hp, rfl⟩ := Option.map_eq_some_iff.1 hb'
      obtain ⟨q, hq, rfl⟩ := Option.map_eq_some_iff.1 hy
      exact (hl2 i p hp).2.2 q hq

theorem rd_int {k : IntKind} (hu : P.underlying t = some (.int k)) (h : DataW.trod enc P w base spare held fuel t cs = some x) : ∃ n, RdC w [.int k n] cs ∧ x.1 = .lit (.int k n) ∧ (Lit.int k n).wf = true := by
  obtain ⟨n, rfl, rfl, hw⟩ := DataW.trod_int hu h
  exact ⟨n, rdC_one (.int _ _), rfl, hw⟩
theorem rd_bool (hu : P.underlying t = some .bool) (h : DataW.trod enc P w base spare held fuel t cs = some x) : ∃ b, RdC w [.bool b] cs ∧ x.1 = .lit (.bool b) := by
  obtain ⟨b, rfl, rfl⟩ := DataW.trod_bool hu h
  exact ⟨b, rdC_one (.bool _), rfl⟩
theorem rd_str (hu : P.underlying t = some .string) (h : DataW.trod enc P w base spare held fuel t cs = some x) : ∃ s : List UInt8, RdC w [.str s] cs ∧ x.1 = .lit (.string s) := by
  obtain ⟨s, rfl, rfl, hs⟩ := DataW.trod_string hu h
  refine ⟨s.data.toList, rdC_one ?_, rfl⟩
  have he : (⟨s.data.toList.toArray⟩ : ByteArray) = s := by
    apply ByteArray.ext
    simp
  have := Rd.str (w := w) (S := Sof w) s.data.toList (by
    have hl : s.data.toList.length = s.size := by rw [Array.length_toList]; rfl
    unfold maxLen at hs; omega)
  rwa [he] at this
/-- A struct's fields. -/
theorem rd_struct {i : TI} {fs : List (Nat × Nat)} (hT : TOk P t i) (hk : i.k = .struct fs) (h : DataW.trod enc P w base spare held fuel t cs = some x) :
    ∃ (xs : List (DataW H × List MemPlace)) (n : Nat), n < fuel ∧ x.1 = .agg (xs.map (·.1)) ∧ cs.length = P.cellsOf t ∧ xs.length = fs.length ∧
      ∀ (i : Nat) (f : Nat × Nat), fs[i]? = some f → DataW.trod enc P w base spare held n f.2 ((cs.drop f.1).take (P.cellsOf f.2)) = xs[i]? := by
  obtain ⟨F, hF, rfl, _⟩ := hT.struct hk
  obtain ⟨xs, n, hf, hx, hl, hlen, hfs⟩ := DataW.trod_struct hF h
  refine ⟨xs, n, by omega, by rw [hx], hl, by simp [hlen], fun j f hj => ?_⟩
  rw [List.getElem?_map] at hj
  obtain ⟨g, hg, rfl⟩ := Option.map_eq_some_iff.1 hj
  exact hfs j g (by simpa using hg)
theorem wf_i64 {n : Int} (h : (Lit.int .i64 n).wf = true) : -9223372036854775808 ≤ n ∧ n ≤ 9223372036854775807 := bounds_i64 h
theorem wf_u8 {n : Int} (h : (Lit.int .u8 n).wf = true) : 0 ≤ n ∧ n ≤ 255 := bounds_u8 h
end

theorem rdv_struct {P : Program} {w W : World} {r : Reach} {base : Nat} {t : TypeId} {i : TI} {fs : List (Nat × Nat)} {x : D} {v : Value} (h : Value.okWide P W r base t v) (hT : TOk P t i) (hk : i.k = .struct fs) (hc : RdC w x.cl v.cells.toList) (hl : x = .agg x.cl) (ho : x.ok1) : Rd w (Sof w) x v := by
  obtain ⟨F, hF, _, _⟩ := hT.struct hk
  unfold Value.okWide at h
  rw [hF] at h
  obtain ⟨cs, rfl, _, _⟩ := h
  rw [hl] at hc ho ⊢
  have : cs = cs.toList.toArray := by simp
  rw [this]
  exact .agg _ _ ho (by simpa [Value.cells, D.cl] using hc.1) (fun j y u h1 h2 => hc.2 j y u (by simpa [D.cl] using h1) (by simpa [Value.cells] using h2))
theorem rdv_one {P : Program} {w W : World} {r : Reach} {base : Nat} {t : TypeId} {i : TI} {x : D} {v : Value} (h : Value.okWide P W r base t v) (hT : TOk P t i) (hk : i.k.agg = false) (hc : RdC w [x] v.cells.toList) : Rd w (Sof w) x v := by
  have hne : ∀ cs, v ≠ .agg cs := by
    rintro cs rfl
    have hk2 := hT.k
    unfold tkOf at hk2
    unfold Value.okWide Cell.okWide Cell.ok at h
    cases hu : P.underlying t with
    | none => rw [hu] at h; simp at h
    | some d =>
      rw [hu] at h hk2
      cases d <;> simp at h hk2
      all_goals first
        | (rw [← hk2] at hk; cases hk)
        | (rw [← hk2.2] at hk; cases hk)
  have hv : v.cells = #[v] := by
    cases v <;> first | rfl | exact absurd rfl (hne _)
  rw [hv] at hc
  exact hc.2 0 x v rfl rfl
/-! ### the close -/
section
variable {H : Type} {enc : TypeId × Value → H} {P : Program}
theorem post_of_below {f : Func} {s : ChangeSpec} {apart fresh handsOn again : Bool} {W W' : World} {args : Array Value} {v : Value} {ds gs : List (DataW H)} {before pa pv : List MemPlace}
    (hW : DataW.Whole enc P f.params.toList s.vars apart W args.toList ds gs before)
    (hres : ∀ (b : Nat) (sp : Nat → Bool) (hd : Bool), DataW.TrodAll enc P W' b sp hd f.resultTypes.toList (v.resultList f.resultTypes.size) (s.fn H (ds ++ gs)).results [])
    (hargs : ∀ sp : Nat → Bool, (∀ p ∈ before, sp p.block = true) → DataW.TrodAll enc P W' 0 sp true f.params.toList args.toList (s.fn H (ds ++ gs)).args pa)
    (hvars : ∀ sp : Nat → Bool, (∀ p ∈ before, sp p.block = true) → DataW.TrodVars enc P W' sp s.vars (s.fn H (ds ++ gs)).vars pv)
    (hps : before = pa ++ pv) (hb : Below W.heap.size W W')
    (hok : ∀ (j : Nat) (t : TypeId) (r : Value), f.resultTypes[j]? = some t → (v.resultList f.resultTypes.size)[j]? = some r → Value.okWide P W' .any 0 t r) :
    s.post enc P f apart fresh handsOn again W args v W' := by
  have hlt : ∀ p ∈ before, p.block < W.heap.size := fun p hp => hW.lt p hp
  have hold : ∀ p ∈ before, (fun b => decide (b < W.heap.size)) p.block = true := fun p hp => by simpa using hlt p hp
  refine ⟨ds, gs, before, [], pa, pv, hW, hres _ _ _, hargs _ hold, hvars _ hold, World.keptBut_mono (fun p hp => ⟨hp, ?_⟩) (hb.frame (· ∈ before)), fun _ => ?_⟩
  · rw [hps, List.mem_append] at hp
    exact Or.inr hp
  · obtain ⟨_, _, _, _, _, hz, hn⟩ := hW
    refine ⟨hok, _, _, ([] ++ pa) ++ pv, ⟨[] ++ pa, pv, trodAll_append (hargs _ (fun _ _ => rfl)) (hres _ _ _), hvars _ (fun _ _ => rfl), rfl, ?_, ?_⟩, ?_⟩
    · intro b off hp
      have hin : MemPlace.cell b off ∈ before := by rw [hps]; simpa using hp
      rw [hb.frozen (hlt _ hin)]
      exact hz b off hin
    · intro ha
      have := hn ha
      rw [hps] at this
      simpa using this
    · intro p hp _
      rw [hps]
      simpa using hp
theorem trodAll_stays (hl : laidOutB P = true) {W W' : World} (hb : Below W.heap.size W W') : ∀ {ts : List TypeId} {vs : List Value} {ds : List (DataW H)} {ps : List MemPlace} {sp : Nat → Bool}, (ts.all fun t => P.readableRec t && decide (t < P.types.size)) = true →
    DataW.TrodAll enc P W 0 (fun _ => true) true ts vs ds ps → (∀ p ∈ ps, sp p.block = true) → (∀ p ∈ ps, p.block < W.heap.size) → DataW.TrodAll enc P W' 0 sp true ts vs ds ps
  | [], vs, ds, ps, sp, _, h, _, _ => by
    obtain ⟨rfl, rfl, rfl⟩ := trodAll_nil h
    rfl
  | t :: ts, vs, ds, ps, sp, ht, h, hs, hlt => by
    obtain ⟨v, vs', d, ds', p, q, rfl, rfl, rfl, h1, h2⟩ := trodAll_cons h
    simp only [List.all_cons, Bool.and_eq_true, decide_eq_true_eq] at ht
    exact trodAll_cons_mk (Trod_stays hl ht.1.1 ht.1.2 h1 (fun x hx => hb.same (hlt x (by simp [hx]))) fun x hx => hs x (by simp [hx])) (trodAll_stays hl hb ht.2 h2 (fun x hx => hs x (by simp [hx])) fun x hx => hlt x (by simp [hx]))
/-- A law that answers yes, called. -/
theorem calls_of_spec {f : FuncId} {fn : Func} {W : World} {vs : List Value} {ds : List D} (hfn : P.funcs[f]? = some fn) (hbody : fn.body.isSome = true) (hname : (fn.name == "runtime.NumGoroutine") = false) (h : PSpec P f (ds.map .d) (.d (.bool true))) (hr : vs.length = ds.length ∧ ∀ (i : Nat) (x : D) (v : Value), ds[i]? = some x → vs[i]? = some v → Rd W (Sof W) x v) :
    Calls P f vs.toArray W fun e W' => e = .returned (.bool true) ∧ Below W.heap.size W W' := by
  have hsto : Sto W (Sof W) (fun _ => undef) (fun _ => none) 0 := ⟨fun k hk => hk, by simp, by simp, by simp, by simp, by simp, by simp⟩
  have hd := h (fun _ => none) 0 W (Sof W) (fun _ => undef) vs hsto (by simp [hr.1]) (fun i c v hc hv => by
    rw [List.getElem?_map] at hc
    obtain ⟨x, hx, rfl⟩ := Option.map_eq_some_iff.1 hc
    exact .d _ _ (hr.2 i x v hx hv)) (lts_of fun i c hc => by
      rw [List.getElem?_map] at hc
      obtain ⟨x, hx, rfl⟩ := Option.map_eq_some_iff.1 hc
      trivial)
  obtain ⟨b, hb⟩ := Option.isSome_iff_exists.1 hbody
  have hcf : (callFunc f vs.toArray).run P W = .ok (.enter f vs.toArray) W := by
    simp only [beq_eq_false_iff_ne, ne_eq] at hname
    simp [callFunc, hfn, hb, hname]
  unfold Does at hd
  rw [hcf] at hd
  refine hd.mono ?_
  rintro e W' ⟨v, rfl, r, o', nk', S', γ', ⟨rfl, rfl, rfl⟩, hs, ht, hsr, hl⟩
  refine ⟨?_, ht.os, ht.tape, ht.output, ht.size, fun k hk => ht.kept k hk ?_⟩
  · cases hsr with
    | d _ _ hrd => cases hrd; rfl
  · rintro ⟨t, y, hy, _⟩
    cases hy
end
end Go.Proofs.Ytpkcbdhjnnnkbaa.Abs
