/- Part 4 of the proof that EntrySames: called with any two entries that hold together at most 1048576 values and letters, the law answers true, and both read afterwards as they read before. -/
import Derived.Test.YtfgampmhjfffdaaGreatMEntrySames3
import Derived.Laws.RangeAny
import Derived.Laws.RangeString
import Derived.LoopN
set_option linter.unusedVariables false
set_option linter.unusedSimpArgs false
set_option maxRecDepth 10000
namespace Go.Proofs.YtfgampmhjfffdaaGreat.Abs
open Go
theorem o_ia_mapG {P : Program} {Θ : Tab} {K : SV → (Nat → Option AO) → Nat → Prop} {sl : Nat → SV} {o : Nat → Option AO} {nk : Nat} {x ix : Operand} {t e : Nat} {α : Type} {i j : TI} {z : Nat} {xs : List α} {g : α → D} {k : IntKind} {m : Nat} (d0 : α) (hx : ev sl x = .d (.sl z (xs.map g))) (hy : ev sl ix = .d (.int k (m : Int))) (hi : Θ t = some i) (hk : i.k = .slice e) (hj : Θ e = some j) (hz : z = j.sz) (hlt : m < xs.length) (h : K (.el (g (xs.getD m d0))) o nk) : vOp P Θ (.indexAddr t x ix) ⟨sl, o, nk⟩ K := by
  have hg : xs.getD m d0 = xs[m]'hlt := by simp [hlt]
  rw [hg] at h
  exact o_ia_map hx hy hi hk hj hz hlt h
theorem begins_yes {a b : List Str} (hl : a.length ≤ b.length) (h : ∀ (j : Nat) (hj : j < a.length) (hk : j < b.length), a[j] = b[j]) : beginsV a b = true := by
  unfold beginsV
  rw [decide_eq_true_eq, List.prefix_iff_eq_take]
  refine List.ext_getElem (by simp; omega) fun j h1 h2 => ?_
  rw [List.getElem_take]
  exact h j h1 (by omega)
theorem begins_no {a b : List Str} {i : Nat} (h : i < a.length) (hb : b.length ≤ i ∨ ∃ hk : i < b.length, a[i] ≠ b[i]) : beginsV a b = false := by
  unfold beginsV
  rw [decide_eq_false_iff_not]
  intro hp
  have hl := hp.length_le
  rcases hb with hb | ⟨hk, hb⟩
  · omega
  · exact hb (hp.getElem h)

theorem fn67 : FnOk Tryz.prog 67 27 [4] (bodyOf Tryz.f67) := ⟨Tryz.f67, Tryz.func67, by kernel_rfl, by decide, by kernel_rfl, by kernel_rfl⟩
theorem s67 (a b : List Str) : PSpec Tryz.prog 67 [.d (.sl 1 (a.map .str)), .d (.sl 1 (b.map .str))] (.d (.bool (beginsV a b))) := by
 refine PSpec.bd fun hbd => ?_
 have hx : a.length ≤ 9223372036854775807 := by simpa using hbd.1.1
 refine PSpec.of fn67 (by simp) fun o nk => ?_
 refine wr ?_
 refine ua ?_
 refine u_nil ?_
 refine WP.seq fun K2 hK2 => ?_
 refine wr ?_
 refine ua ?_
 refine u_nil ?_
 refine WP.block ?_
 refine WP.loopL (ι := Nat) (fun i => ⟨al [(0, .d (.sl 1 (a.map .str))), (1, .d (.sl 1 (b.map .str))), (5, .d (.int .i64 i))], o, nk⟩) (fun i => i ≤ a.length ∧ i ≤ b.length ∧ ∀ (j : Nat) (hj : j < a.length) (hk : j < b.length), j < i → a[j] = b[j]) (fun i => a.length - i) (fun i hA => ?_) 0 ?_ ?_
 ·
  obtain ⟨hle_i, hin_i⟩ := hA
  refine WP.seq fun K4 hK4 => ?_
  refine wr ?_
  refine um ?_
  refine um ?_
  refine un th23 ?_
  refine ub ?_
  refine u_nil ?_
  refine wc (fun hc6 => ?_) (fun hc6 => ?_) <;> try simp only [Q0, Q1, Q2, Q3, Q4, Q5, Q6, Q7, Q8, ge_iff_le, gt_iff_lt] at hc6
  ·
   refine WP.skip ?_
   refine hK4 _ ?_
   refine WP.seq fun K7 hK7 => ?_
   refine WP.block ?_
   refine wd ?_
   refine dm ?_
   refine dm ?_
   refine dn th23 ?_
   refine db ?_
   refine dm ?_
   apply d_guard
   · exact GC.f _
   · intro hg
     exact pm
   apply d_guard
   · exact GC.f _
   · intro hg
     exact pm
   apply d_guard
   · exact GC.f _
   · intro hg; try simp only [hg, ct]; try simp only [hg, ct, Bt]
     have hg2 := hg; try simp only [Q0, Q1, Q2, Q3, Q4, Q5, Q6, Q9, Qa, Qb, Qc, Qd] at hg2
     first | refine o_ia_map rfl rfl th23 rfl th9 rfl (by omega) ⟨rfl, rfl, rfl⟩ | refine o_ia_vs rfl rfl th23 rfl th9 rfl (by omega) ⟨rfl, rfl, rfl⟩
   apply d_guard
   · exact GC.f _
   · intro hg; try simp only [hg, ct]; try simp only [hg, ct, Bt]
     exact pL th9
   apply d_guard
   · exact GC.f _
   · intro hg
     exact pm
   apply d_guard
   · exact GC.f _
   · intro hg
     exact pm
   apply d_guard
   · exact GC.f _
   · intro hg; try simp only [hg, ct]; try simp only [hg, ct, Bt]
     have hg2 := hg; try simp only [Q0, Q1, Q2, Q3, Q4, Q5, Q6, Q9, Qa, Qb, Qc, Qd] at hg2
     refine o_ia_mapG (xs := b) ([] : Str) rfl rfl th23 rfl th9 rfl (by omega) ⟨rfl, rfl, rfl⟩
   apply d_guard
   · exact GC.f _
   · intro hg; try simp only [hg, ct]; try simp only [hg, ct, Bt]
     exact pL th9
   apply d_guard
   · exact GC.f _
   · intro hg; try simp only [hg, ct]; try simp only [hg, ct, Bt]
     exact ps
   refine dO ?_
   refine d_nil ?_
   refine wc (fun hc9 => ?_) (fun hc9 => ?_) <;> try simp only [Q0, Q1, Q2, Q3, Q4, Q5, Q6, Q7, Q8, ge_iff_le, gt_iff_lt] at hc9
   ·
    refine wr ?_
    refine ua ?_
    refine u_nil ?_
    refine WP.ret ?_
    refine ret_ok rfl ?_ (by omega) (fun _ _ => rfl)
    -- ret 1
    rw [begins_no (by omega) ?_]
    by_cases hb : b.length ≤ i
    · exact .inl hb
    · have hk : i < b.length := by omega
      exact .inr ⟨hk, by simpa [hb, hk] using hc9⟩
   ·
    refine WP.skip ?_
    refine hK7 _ ?_
    refine WP.reg tabOk rfl ?_
    refine um ?_
    refine ub ?_
    refine ua ?_
    refine u_nil ?_
    -- back
    refine ⟨i + 1, ⟨by omega, ?_⟩, by omega, ?_⟩
    · have hq := Bool.or_eq_false_iff.1 hc9
      have hq1 : ¬ b.length ≤ i := by simpa using hq.1
      refine ⟨by omega, fun j hj hk h1 => ?_⟩
      by_cases h2 : j = i
      · subst h2; simpa [hk] using hq.2
      · exact hin_i.2 j hj hk (by omega)
    · refine Le.al ?_
      simp only [List.forall_mem_cons]
      exact ⟨rfl, rfl, cnt (by omega), by simp⟩
  ·
   refine WP.exit ?_
   refine hK2 _ ?_
   refine wr ?_
   refine ua ?_
   refine u_nil ?_
   refine WP.ret ?_
   refine ret_ok rfl ?_ (by omega) (fun _ _ => rfl)
   -- ret 2
   rw [begins_yes (by omega) fun j hj hk => hin_i.2 j hj hk (by omega)]
 ·
  simp
 ·
  refine Le.al ?_
  simp only [List.forall_mem_cons]
  exact ⟨rfl, rfl, rfl, by simp⟩

theorem fn88 : FnOk Tryz.prog 88 26 [4] (bodyOf Tryz.f88) := ⟨Tryz.f88, Tryz.func88, by kernel_rfl, by decide, by kernel_rfl, by kernel_rfl⟩
theorem s88 (a b : List Str) : PSpec Tryz.prog 88 [.d (.sl 1 (a.map .str)), .d (.sl 1 (b.map .str))] (.d (.bool (decide (a = b)))) := by
 refine PSpec.bd fun hbd => ?_
 have hx : a.length ≤ 9223372036854775807 := by simpa using hbd.1.1
 refine PSpec.of fn88 (by simp) fun o nk => ?_
 refine wr ?_
 refine ua ?_
 refine u_nil ?_
 refine WP.seq fun K2 hK2 => ?_
 refine wr ?_
 refine um ?_
 refine un th23 ?_
 refine um ?_
 refine un th23 ?_
 refine ub ?_
 refine u_nil ?_
 refine wc (fun hc4 => ?_) (fun hc4 => ?_) <;> try simp only [Q0, Q1, Q2, Q3, Q4, Q5, Q6, Q7, Q8, ge_iff_le, gt_iff_lt] at hc4
 ·
  refine wr ?_
  refine ua ?_
  refine u_nil ?_
  refine WP.ret ?_
  refine ret_ok rfl ?_ (by omega) (fun _ _ => rfl)
  -- ret 1
  refine congrArg D.bool (Eq.symm (decide_eq_false fun e => ?_))
  subst e
  simp at hc4
 ·
  have hl : a.length = b.length := by simp at hc4; omega
  refine WP.skip ?_
  refine hK2 _ ?_
  refine WP.seq fun K6 hK6 => ?_
  refine wr ?_
  refine um ?_
  refine un th23 ?_
  refine um ?_
  refine u_nil ?_
  refine WP.block ?_
  refine WP.loopL (ι := Nat) (fun i => ⟨al [(0, .d (.sl 1 (a.map .str))), (1, .d (.sl 1 (b.map .str))), (12, .d (.int .i64 (a.map D.str).length)), (13, .d (.int .i64 i))], o, nk⟩) (fun i => i ≤ a.length ∧ ∀ (j : Nat) (hj : j < a.length) (hk : j < b.length), j < i → a[j] = b[j]) (fun i => a.length - i) (fun i hA => ?_) 0 ?_ ?_
  ·
   obtain ⟨hle_i, hin_i⟩ := hA
   refine wr ?_
   refine ub ?_
   refine u_nil ?_
   refine WP.seq fun K9 hK9 => ?_
   refine wc (fun hc10 => ?_) (fun hc10 => ?_) <;> try simp only [Q0, Q1, Q2, Q3, Q4, Q5, Q6, Q7, Q8, ge_iff_le, gt_iff_lt] at hc10
   ·
    refine WP.skip ?_
    refine hK9 _ ?_
    refine WP.seq fun K11 hK11 => ?_
    refine WP.block ?_
    refine wr ?_
    refine um ?_
    refine ua ?_
    refine u_nil ?_
    refine wd ?_
    refine dm ?_
    refine dm ?_
    first | refine d_step (o_ia_map rfl rfl th23 rfl th9 rfl (by omega) ⟨rfl, rfl, rfl⟩) ?_ | refine d_step (o_ia_vs rfl rfl th23 rfl th9 rfl (by omega) ⟨rfl, rfl, rfl⟩) ?_
    refine dL th9 ?_
    refine dm ?_
    refine dm ?_
    first | refine d_step (o_ia_map rfl rfl th23 rfl th9 rfl (by omega) ⟨rfl, rfl, rfl⟩) ?_ | refine d_step (o_ia_vs rfl rfl th23 rfl th9 rfl (by omega) ⟨rfl, rfl, rfl⟩) ?_
    refine dL th9 ?_
    refine ds ?_
    refine d_nil ?_
    refine wc (fun hc14 => ?_) (fun hc14 => ?_) <;> try simp only [Q0, Q1, Q2, Q3, Q4, Q5, Q6, Q7, Q8, ge_iff_le, gt_iff_lt] at hc14
    ·
     refine wr ?_
     refine ua ?_
     refine u_nil ?_
     refine WP.ret ?_
     refine ret_ok rfl ?_ (by omega) (fun _ _ => rfl)
     -- ret 2
     refine congrArg D.bool (Eq.symm (decide_eq_false fun e => ?_))
     subst e
     simp at hc14
    ·
     refine WP.skip ?_
     refine hK11 _ ?_
     refine WP.reg tabOk rfl ?_
     refine ub ?_
     refine um ?_
     refine u_nil ?_
     -- back
     refine ⟨i + 1, ⟨by omega, ?_⟩, by omega, ?_⟩
     · intro j hj hk h1
       by_cases h2 : j = i
       · subst h2; simpa using hc14
       · exact hin_i j hj hk (by omega)
     · refine Le.al ?_
       simp only [List.forall_mem_cons]
       exact ⟨rfl, rfl, rfl, cnt (by omega), by simp⟩
   ·
    refine WP.exit ?_
    refine hK6 _ ?_
    refine wr ?_
    refine ua ?_
    refine u_nil ?_
    refine WP.ret ?_
    refine ret_ok rfl ?_ (by omega) (fun _ _ => rfl)
    -- ret 3
    refine congrArg D.bool (Eq.symm (decide_eq_true ?_))
    exact List.ext_getElem hl fun j h1 h2 => hin_i j h1 h2 (by omega)
  ·
   simp
  ·
   refine Le.al ?_
   simp only [List.forall_mem_cons]
   exact ⟨rfl, rfl, rfl, rfl, by simp⟩

theorem fn59 : FnOk Tryz.prog 59 15 [4] (bodyOf Tryz.f59) := ⟨Tryz.f59, Tryz.func59, by kernel_rfl, by decide, by kernel_rfl, by kernel_rfl⟩
theorem s59 (a b : List Str) : PSpec Tryz.prog 59 [.d (.sl 1 (a.map .str)), .d (.sl 1 (b.map .str))] (.d (.bool (decide (a = b)))) := by
 refine PSpec.of fn59 (by simp) fun o nk => ?_
 refine wr ?_
 refine ua ?_
 refine u_nil ?_
 refine wr ?_
 refine um ?_
 refine un th23 ?_
 refine um ?_
 refine un th23 ?_
 refine ub ?_
 refine um ?_
 apply gT
 · rfl
 · intro hg
   exact pm
 apply gT
 · rfl
 · intro hg
   exact pm
 apply gT
 · rfl
 · intro hg; try simp only [hg, ct]; try simp only [hg, ct, Bt]
   refine o_pcall (s67 _ _) rfl ⟨rfl, rfl, rfl⟩
 refine uA ?_
 refine ua ?_
 refine u_nil ?_
 refine WP.ret ?_
 refine ret_ok rfl ?_ (by omega) (fun _ _ => rfl)
 -- ret 1
 refine congrArg D.bool ?_
 rw [Bool.eq_iff_iff]
 simp only [Bool.and_eq_true, beq_iff_eq, List.length_map, decide_eq_true_eq, beginsV]
 constructor
 · rintro ⟨h1, h2⟩; exact h2.eq_of_length (by omega)
 · rintro rfl; exact ⟨rfl, List.prefix_refl _⟩

end Go.Proofs.YtfgampmhjfffdaaGreat.Abs

set_option linter.unusedVariables false
set_option linter.unusedSimpArgs false
set_option maxRecDepth 10000
namespace Go.Proofs.YtfgampmhjfffdaaGreat.Abs
open Go
def meetV (a b : List Str) : Bool := beginsV a b || beginsV b a

end Go.Proofs.YtfgampmhjfffdaaGreat.Abs

set_option linter.unusedVariables false
set_option linter.unusedSimpArgs false
set_option maxRecDepth 10000
namespace Go.Proofs.YtfgampmhjfffdaaGreat.Abs
open Go
/-- A change that may be. -/
def mayD (d : Dlt) : Bool := pathV d.path && (if d.kind = 1 then decide (checkV d.value = 0) && decide (d.n = 0) else if d.kind = 2 then noneV d.value && decide (d.n = 0) else if d.kind = 3 then noneV d.value && decide (0 ≤ d.n) && decide (d.n ≤ 999) else false)
def okD (d : Dlt) : Prop := rngV d.value ∧ szV d.value ≤ 1099511627776
def checkD (l : List Dlt) : Int := if 64 < l.length then 3 else if l.all mayD then 0 else 1
theorem none_le (v : Val) : SV.les [.d (.agg (valCells v)), .d (.agg [.int .i64 0, .int .i64 0, .str [], .nil, .nil])] [.d (encV v), .d (encV (.mk 0 0 [] [] []))] := by
  refine ⟨?_, ?_, trivial⟩
  · show D.le (.agg (valCells v)) (encV v)
    rw [encV_eq]; exact D.le_refl _
  · show D.le (.agg [.int .i64 0, .int .i64 0, .str [], .nil, .nil]) (encV (.mk 0 0 [] [] []))
    simp [D.le, D.les, encV, encVs]
theorem s27n (v : Val) : PSpec Tryz.prog 27 [.d (.agg (valCells v)), .d (.agg [.int .i64 0, .int .i64 0, .str [], .nil, .nil])] (.d (.bool (noneV v))) := by
  have := PSpec.le (s27 v (.mk 0 0 [] [] [])) (none_le v)
  rwa [none_same] at this

theorem fn66 : FnOk Tryz.prog 66 46 [2] (bodyOf Tryz.f66) := ⟨Tryz.f66, Tryz.func66, by kernel_rfl, by decide, by kernel_rfl, by kernel_rfl⟩
theorem s66 (d : Dlt) (hd : okD d) : PSpec Tryz.prog 66 [.d (encD d)] (.d (.bool (mayD d))) := by
 refine PSpec.of fn66 (by simp) fun o nk => ?_
 refine wr ?_
 refine u_step (g_box rfl fun o2 hb2 hk2 => ?_)
 refine ua ?_
 refine u_nil ?_
 refine WP.seq fun K3 hK3 => ?_
 refine wr ?_
 refine uf th53 th23 hb2 ?_
 refine ul th23 hb2 ?_
 refine u_step (o_pcall (s93 _) rfl ?_)
 refine uN ?_
 refine u_nil ?_
 refine wc (fun hc5 => ?_) (fun hc5 => ?_) <;> try simp only [Q0, Q1, Q2, Q3, Q4, Q5, Q6, Q7, Q8, ge_iff_le, gt_iff_lt] at hc5
 ·
  refine wr ?_
  refine ua ?_
  refine u_nil ?_
  refine WP.ret ?_
  refine ret_ok rfl ?_ (by omega) (fun t ht => (hk2 t (by omega)))
  -- ret 1
  clear hK3
  refine congrArg D.bool ?_
  simp only [mayD]
  grind
 ·
  refine WP.skip ?_
  refine hK3 _ ?_
  refine wr ?_
  refine uf th53 th25 hb2 ?_
  refine ug th25 hb2 ?_
  refine u_step (o_bu rfl th25 rfl rfl ?_)
  refine u_step (o_pcall (s27n d.value) rfl ?_)
  refine ua ?_
  refine u_nil ?_
  refine WP.seq fun K8 hK8 => ?_
  refine wr ?_
  refine uf th53 th3 hb2 ?_
  refine ul th3 hb2 ?_
  refine u_nil ?_
  refine WP.block ?_
  refine wr ?_
  refine ub ?_
  refine ua ?_
  refine u_nil ?_
  refine wc (fun hc11 => ?_) (fun hc11 => ?_) <;> try simp only [Q0, Q1, Q2, Q3, Q4, Q5, Q6, Q7, Q8, ge_iff_le, gt_iff_lt] at hc11
  ·
   refine wr ?_
   refine uf th53 th25 hb2 ?_
   refine ug th25 hb2 ?_
   refine u_step (o_pcall (pv (v := d.value) (s14 d.value hd.1 hd.2)) rfl ?_)
   refine ub ?_
   refine um ?_
   apply gT
   · rfl
   · intro hg
     exact pf th53 th3 hb2
   apply gT
   · rfl
   · intro hg; try simp only [hg, ct]; try simp only [hg, ct, Bt]
     exact pl th3 hb2
   apply gT
   · rfl
   · intro hg; try simp only [hg, ct]; try simp only [hg, ct, Bt]
     exact pb
   refine uA ?_
   refine ua ?_
   refine u_nil ?_
   refine WP.ret ?_
   refine ret_ok rfl ?_ (by omega) (fun t ht => (hk2 t (by omega)))
   -- ret 2
   clear hK3 hK8
   refine congrArg D.bool ?_
   simp only [mayD]
   grind
  ·
   refine wr ?_
   refine ub ?_
   refine ua ?_
   refine u_nil ?_
   refine wc (fun hc14 => ?_) (fun hc14 => ?_) <;> try simp only [Q0, Q1, Q2, Q3, Q4, Q5, Q6, Q7, Q8, ge_iff_le, gt_iff_lt] at hc14
   ·
    refine wr ?_
    refine um ?_
    refine um ?_
    apply gT
    · rfl
    · intro hg
      exact pf th53 th3 hb2
    apply gT
    · rfl
    · intro hg; try simp only [hg, ct]; try simp only [hg, ct, Bt]
      exact pl th3 hb2
    apply gT
    · rfl
    · intro hg; try simp only [hg, ct]; try simp only [hg, ct, Bt]
      exact pb
    refine uA ?_
    refine ua ?_
    refine u_nil ?_
    refine WP.ret ?_
    refine ret_ok rfl ?_ (by omega) (fun t ht => (hk2 t (by omega)))
    -- ret 3
    clear hK3 hK8
    refine congrArg D.bool ?_
    simp only [mayD]
    grind
   ·
    refine wr ?_
    refine ub ?_
    refine ua ?_
    refine u_nil ?_
    refine wc (fun hc17 => ?_) (fun hc17 => ?_) <;> try simp only [Q0, Q1, Q2, Q3, Q4, Q5, Q6, Q7, Q8, ge_iff_le, gt_iff_lt] at hc17
    ·
     refine wr ?_
     refine um ?_
     refine um ?_
     apply gT
     · rfl
     · intro hg
       exact pf th53 th3 hb2
     apply gT
     · rfl
     · intro hg; try simp only [hg, ct]; try simp only [hg, ct, Bt]
       exact pl th3 hb2
     apply gT
     · rfl
     · intro hg; try simp only [hg, ct]; try simp only [hg, ct, Bt]
       exact pb
     refine uA ?_
     refine um ?_
     apply gT
     · rfl
     · intro hg
       exact pf th53 th3 hb2
     apply gT
     · rfl
     · intro hg; try simp only [hg, ct]; try simp only [hg, ct, Bt]
       exact pl th3 hb2
     apply gT
     · rfl
     · intro hg; try simp only [hg, ct]; try simp only [hg, ct, Bt]
       exact pb
     refine uA ?_
     refine ua ?_
     refine u_nil ?_
     refine WP.ret ?_
     refine ret_ok rfl ?_ (by omega) (fun t ht => (hk2 t (by omega)))
     -- ret 4
     clear hK3 hK8
     refine congrArg D.bool ?_
     simp only [mayD]
     grind
    ·
     refine WP.skip ?_
     refine hK8 _ ?_
     refine wr ?_
     refine ua ?_
     refine u_nil ?_
     refine WP.ret ?_
     refine ret_ok rfl ?_ (by omega) (fun t ht => (hk2 t (by omega)))
     -- ret 5
     clear hK3 hK8
     refine congrArg D.bool ?_
     simp only [mayD]
     grind

end Go.Proofs.YtfgampmhjfffdaaGreat.Abs

set_option linter.unusedVariables false
set_option linter.unusedSimpArgs false
set_option maxRecDepth 10000
namespace Go.Proofs.YtfgampmhjfffdaaGreat.Abs
open Go

theorem fn34 : FnOk Tryz.prog 34 19 [2] (bodyOf Tryz.f34) := ⟨Tryz.f34, Tryz.func34, by kernel_rfl, by decide, by kernel_rfl, by kernel_rfl⟩
theorem s34 (l : List Dlt) (hl : l.length ≤ 64 → ∀ d ∈ l, okD d) : PSpec Tryz.prog 34 [.d (.sl 8 (l.map encD))] (.d (.int .i64 (checkD l))) := by
 refine PSpec.bd fun hbd => ?_
 have hx : l.length ≤ 9223372036854775807 := by simpa using hbd.1.1
 refine PSpec.of fn34 (by simp) fun o nk => ?_
 refine wr ?_
 refine ua ?_
 refine u_nil ?_
 refine WP.seq fun K2 hK2 => ?_
 refine wr ?_
 refine um ?_
 refine un th26 ?_
 refine ub ?_
 refine u_nil ?_
 refine wc (fun hc4 => ?_) (fun hc4 => ?_) <;> try simp only [Q0, Q1, Q2, Q3, Q4, Q5, Q6, Q7, Q8, ge_iff_le, gt_iff_lt] at hc4
 ·
  refine wr ?_
  refine ua ?_
  refine u_nil ?_
  refine WP.ret ?_
  refine ret_ok rfl ?_ (by omega) (fun _ _ => rfl)
  -- ret 1
  refine congrArg (D.int .i64) ?_
  simp only [checkD]
  clear hK2
  grind
 ·
  refine WP.skip ?_
  refine hK2 _ ?_
  refine WP.seq fun K6 hK6 => ?_
  refine wr ?_
  refine ua ?_
  refine u_nil ?_
  refine WP.block ?_
  refine WP.loopL (ι := Nat) (fun i => ⟨al [(0, .d (.sl 8 (l.map encD))), (3, .d (.int .i64 i))], o, nk⟩) (fun i => i ≤ l.length ∧ (l.take i).all mayD = true) (fun i => l.length - i) (fun i hA => ?_) 0 ?_ ?_
  ·
   obtain ⟨hle_i, hin_i⟩ := hA
   refine WP.seq fun K8 hK8 => ?_
   refine wr ?_
   refine um ?_
   refine um ?_
   refine un th26 ?_
   refine ub ?_
   refine u_nil ?_
   refine wc (fun hc10 => ?_) (fun hc10 => ?_) <;> try simp only [Q0, Q1, Q2, Q3, Q4, Q5, Q6, Q7, Q8, ge_iff_le, gt_iff_lt] at hc10
   ·
    refine WP.skip ?_
    refine hK8 _ ?_
    refine WP.seq fun K11 hK11 => ?_
    refine WP.block ?_
    refine wr ?_
    refine um ?_
    refine um ?_
    first | refine u_step (o_ia_map rfl rfl th26 rfl th53 rfl (by omega) ?_) | refine u_step (o_ia_vs rfl rfl th26 rfl th53 rfl (by omega) ?_)
    refine uL th53 ?_
    refine u_step (o_pcall (s66 l[i] (hl (by omega) _ (List.getElem_mem _))) rfl ?_)
    refine uN ?_
    refine u_nil ?_
    refine wc (fun hc13 => ?_) (fun hc13 => ?_) <;> try simp only [Q0, Q1, Q2, Q3, Q4, Q5, Q6, Q7, Q8, ge_iff_le, gt_iff_lt] at hc13
    ·
     refine wr ?_
     refine ua ?_
     refine u_nil ?_
     refine WP.ret ?_
     refine ret_ok rfl ?_ (by omega) (fun _ _ => rfl)
     -- ret 2
     have h1 := all_false (p := mayD) (by omega : i < l.length) (by simpa using hc13)
     refine congrArg (D.int .i64) ?_
     simp only [checkD, h1]
     grind
    ·
     refine WP.skip ?_
     refine hK11 _ ?_
     refine WP.reg tabOk rfl ?_
     refine um ?_
     refine ub ?_
     refine ua ?_
     refine u_nil ?_
     -- back
     refine ⟨i + 1, ⟨by omega, ?_⟩, by omega, ?_⟩
     · rw [all_snoc (by omega), hin_i]
       simpa using hc13
     · refine Le.al ?_
       simp only [List.forall_mem_cons]
       exact ⟨rfl, cnt (by omega), by simp⟩
   ·
    refine WP.exit ?_
    refine hK6 _ ?_
    refine wr ?_
    refine ua ?_
    refine u_nil ?_
    refine WP.ret ?_
    refine ret_ok rfl ?_ (by omega) (fun _ _ => rfl)
    -- ret 3
    have h1 := all_true (by omega) hin_i
    refine congrArg (D.int .i64) ?_
    simp only [checkD, h1]
    grind
  ·
   simp
  ·
   refine Le.al ?_
   simp only [List.forall_mem_cons]
   exact ⟨rfl, rfl, by simp⟩

end Go.Proofs.YtfgampmhjfffdaaGreat.Abs

set_option linter.unusedVariables false
set_option linter.unusedSimpArgs false
set_option maxRecDepth 10000
namespace Go.Proofs.YtfgampmhjfffdaaGreat.Abs
open Go
end Go.Proofs.YtfgampmhjfffdaaGreat.Abs

set_option linter.unusedVariables false
set_option linter.unusedSimpArgs false
set_option maxRecDepth 10000
namespace Go.Proofs.YtfgampmhjfffdaaGreat.Abs
open Go
def freeD (l : List Dlt) : Bool := decide (l.Pairwise fun a b => meetV a.path b.path = false)
theorem meet_comm (a b : List Str) : meetV a b = meetV b a := by simp [meetV, Bool.or_comm]
theorem free_no {l : List Dlt} {i k : Nat} (hi : i < l.length) (hk : k < i) (h : meetV (l[k]'(by omega)).path (l[i]'hi).path = true) : freeD l = false := by
  unfold freeD
  rw [decide_eq_false_iff_not]
  intro hp
  have := (List.pairwise_iff_getElem.1 hp) k i (by omega) hi hk
  rw [h] at this; cases this
theorem free_yes {l : List Dlt} (h : ∀ (a b : Nat) (ha : a < l.length) (hb : b < l.length), a < b → meetV l[a].path l[b].path = false) : freeD l = true := by
  unfold freeD
  rw [decide_eq_true_eq]
  exact List.pairwise_iff_getElem.2 fun i j hi hj hij => h i j hi hj hij

theorem fn35 : FnOk Tryz.prog 35 40 [2] (bodyOf Tryz.f35) := ⟨Tryz.f35, Tryz.func35, by kernel_rfl, by decide, by kernel_rfl, by kernel_rfl⟩
theorem s35 (l : List Dlt) : PSpec Tryz.prog 35 [.d (.sl 8 (l.map encD))] (.d (.bool (freeD l))) := by
 refine PSpec.bd fun hbd => ?_
 have hx : l.length ≤ 9223372036854775807 := by simpa using hbd.1.1
 refine PSpec.of fn35 (by simp) fun o nk => ?_
 refine wr ?_
 refine ua ?_
 refine u_nil ?_
 refine WP.seq fun K2 hK2 => ?_
 refine wr ?_
 refine ua ?_
 refine u_nil ?_
 refine WP.block ?_
 refine WP.loopL (ι := Nat) (fun i => ⟨al [(0, .d (.sl 8 (l.map encD))), (3, .d (.int .i64 i))], o, nk⟩) (fun i => i ≤ l.length ∧ ∀ (a b : Nat) (ha : a < l.length) (hb : b < l.length), a < b → b < i → meetV l[a].path l[b].path = false) (fun i => l.length - i) (fun i hA => ?_) 0 ?_ ?_
 ·
  obtain ⟨hle_i, hin_i⟩ := hA
  refine WP.seq fun K4 hK4 => ?_
  refine wr ?_
  refine um ?_
  refine um ?_
  refine un th26 ?_
  refine ub ?_
  refine u_nil ?_
  refine wc (fun hc6 => ?_) (fun hc6 => ?_) <;> try simp only [Q0, Q1, Q2, Q3, Q4, Q5, Q6, Q7, Q8, ge_iff_le, gt_iff_lt] at hc6
  ·
   refine WP.skip ?_
   refine hK4 _ ?_
   refine WP.seq fun K7 hK7 => ?_
   refine WP.block ?_
   refine wr ?_
   refine ua ?_
   refine u_nil ?_
   refine WP.block ?_
   refine WP.loopL (ι := Nat) (fun j => ⟨al [(0, .d (.sl 8 (l.map encD))), (3, .d (.int .i64 i)), (4, .d (.int .i64 j))], o, nk⟩) (fun j => j ≤ i ∧ ∀ (a : Nat) (ha : a < l.length), a < j → meetV l[a].path l[i].path = false) (fun j => i - j) (fun j hA => ?_) 0 ?_ ?_
   ·
    obtain ⟨hle_j, hin_j⟩ := hA
    refine WP.seq fun K9 hK9 => ?_
    refine wr ?_
    refine um ?_
    refine um ?_
    refine ub ?_
    refine u_nil ?_
    refine wc (fun hc11 => ?_) (fun hc11 => ?_) <;> try simp only [Q0, Q1, Q2, Q3, Q4, Q5, Q6, Q7, Q8, ge_iff_le, gt_iff_lt] at hc11
    ·
     refine WP.skip ?_
     refine hK9 _ ?_
     refine WP.seq fun K12 hK12 => ?_
     refine WP.block ?_
     refine wd ?_
     refine dm ?_
     refine dm ?_
     first | refine d_step (o_ia_map rfl rfl th26 rfl th53 rfl (by omega) ⟨rfl, rfl, rfl⟩) ?_ | refine d_step (o_ia_vs rfl rfl th26 rfl th53 rfl (by omega) ⟨rfl, rfl, rfl⟩) ?_
     refine dF th53 th23 ?_
     refine dL th23 ?_
     refine dm ?_
     refine dm ?_
     first | refine d_step (o_ia_map rfl rfl th26 rfl th53 rfl (by omega) ⟨rfl, rfl, rfl⟩) ?_ | refine d_step (o_ia_vs rfl rfl th26 rfl th53 rfl (by omega) ⟨rfl, rfl, rfl⟩) ?_
     refine dF th53 th23 ?_
     refine dL th23 ?_
     refine d_step (o_pcall (s67 _ _) rfl ⟨rfl, rfl, rfl⟩) ?_
     refine dm ?_
     apply d_guard
     · exact GC.f _
     · intro hg
       exact pm
     apply d_guard
     · exact GC.f _
     · intro hg
       exact pm
     apply d_guard
     · exact GC.f _
     · intro hg; try simp only [hg, ct]; try simp only [hg, ct, Bt]
       have hg2 := hg; try simp only [Q0, Q1, Q2, Q3, Q4, Q5, Q6, Q9, Qa, Qb, Qc, Qd] at hg2
       first | refine o_ia_map rfl rfl th26 rfl th53 rfl (by omega) ⟨rfl, rfl, rfl⟩ | refine o_ia_vs rfl rfl th26 rfl th53 rfl (by omega) ⟨rfl, rfl, rfl⟩
     apply d_guard
     · exact GC.f _
     · intro hg; try simp only [hg, ct]; try simp only [hg, ct, Bt]
       exact pF th53 th23
     apply d_guard
     · exact GC.f _
     · intro hg; try simp only [hg, ct]; try simp only [hg, ct, Bt]
       exact pL th23
     apply d_guard
     · exact GC.f _
     · intro hg
       exact pm
     apply d_guard
     · exact GC.f _
     · intro hg
       exact pm
     apply d_guard
     · exact GC.f _
     · intro hg; try simp only [hg, ct]; try simp only [hg, ct, Bt]
       have hg2 := hg; try simp only [Q0, Q1, Q2, Q3, Q4, Q5, Q6, Q9, Qa, Qb, Qc, Qd] at hg2
       first | refine o_ia_map rfl rfl th26 rfl th53 rfl (by omega) ⟨rfl, rfl, rfl⟩ | refine o_ia_vs rfl rfl th26 rfl th53 rfl (by omega) ⟨rfl, rfl, rfl⟩
     apply d_guard
     · exact GC.f _
     · intro hg; try simp only [hg, ct]; try simp only [hg, ct, Bt]
       exact pF th53 th23
     apply d_guard
     · exact GC.f _
     · intro hg; try simp only [hg, ct]; try simp only [hg, ct, Bt]
       exact pL th23
     apply d_guard
     · exact GC.f _
     · intro hg; try simp only [hg, ct]; try simp only [hg, ct, Bt]
       refine o_pcall (s67 _ _) rfl ⟨rfl, rfl, rfl⟩
     refine dO ?_
     refine d_nil ?_
     refine wc (fun hc14 => ?_) (fun hc14 => ?_) <;> try simp only [Q0, Q1, Q2, Q3, Q4, Q5, Q6, Q7, Q8, ge_iff_le, gt_iff_lt] at hc14
     ·
      refine wr ?_
      refine ua ?_
      refine u_nil ?_
      refine WP.ret ?_
      refine ret_ok rfl ?_ (by omega) (fun _ _ => rfl)
      -- ret 1
      rw [free_no (i := i) (k := j) (by omega) (by omega) (by rw [meet_comm]; exact hc14)]
     ·
      refine WP.skip ?_
      refine hK12 _ ?_
      refine WP.reg tabOk rfl ?_
      refine um ?_
      refine ub ?_
      refine ua ?_
      refine u_nil ?_
      -- back
      refine ⟨j + 1, ⟨by omega, ?_⟩, by omega, ?_⟩
      · intro a ha h1
        by_cases haj : a = j
        · subst haj; rw [meet_comm]; exact hc14
        · exact hin_j a ha (by omega)
      · refine Le.al ?_
        simp only [List.forall_mem_cons]
        exact ⟨rfl, rfl, cnt (by omega), by simp⟩
    ·
     refine WP.exit ?_
     refine hK7 _ ?_
     refine WP.reg tabOk rfl ?_
     refine um ?_
     refine ub ?_
     refine ua ?_
     refine u_nil ?_
     -- back
     refine ⟨i + 1, ⟨by omega, ?_⟩, by omega, ?_⟩
     · intro a b ha hb h1 h2
       by_cases hbi : b = i
       · subst hbi; exact hin_j a ha (by omega)
       · exact hin_i a b ha hb h1 (by omega)
     · refine Le.al ?_
       simp only [List.forall_mem_cons]
       exact ⟨rfl, cnt (by omega), by simp⟩
   ·
    simp
   ·
    refine Le.al ?_
    simp only [List.forall_mem_cons]
    exact ⟨rfl, rfl, rfl, by simp⟩
  ·
   refine WP.exit ?_
   refine hK2 _ ?_
   refine wr ?_
   refine ua ?_
   refine u_nil ?_
   refine WP.ret ?_
   refine ret_ok rfl ?_ (by omega) (fun _ _ => rfl)
   -- ret 2
   rw [free_yes fun a b ha hb h1 => hin_i a b ha hb h1 (by omega)]
 ·
  simp
 ·
  refine Le.al ?_
  simp only [List.forall_mem_cons]
  exact ⟨rfl, rfl, by simp⟩

end Go.Proofs.YtfgampmhjfffdaaGreat.Abs

set_option linter.unusedVariables false
set_option linter.unusedSimpArgs false
set_option maxRecDepth 10000
namespace Go.Proofs.YtfgampmhjfffdaaGreat.Abs
open Go
end Go.Proofs.YtfgampmhjfffdaaGreat.Abs

set_option linter.unusedVariables false
set_option linter.unusedSimpArgs false
set_option maxRecDepth 10000
namespace Go.Proofs.YtfgampmhjfffdaaGreat.Abs
open Go
def cmpI (a b : Int) : Int := if a < b then -1 else if b < a then 1 else 0
def orI : List Int → Int
  | [] => 0
  | x :: r => if x = 0 then orI r else x
theorem orI_at : ∀ {l : List Int} {i : Nat} (h : i < l.length) (_ : ∀ x ∈ l.take i, x = 0) (_ : l[i]'h ≠ 0), orI l = l[i]'h
  | x :: l, 0, _, _, hn => by simp only [orI, List.getElem_cons_zero] at *; rw [if_neg hn]
  | x :: l, i + 1, h, hz, hn => by
    have h0 : x = 0 := hz x (by simp)
    simp only [orI, if_pos h0, List.getElem_cons_succ]
    exact orI_at (by simpa using h) (fun y hy => hz y (by simp [hy])) (by simpa using hn)
theorem orI_none : ∀ {l : List Int}, (∀ x ∈ l, x = 0) → orI l = 0
  | [], _ => rfl
  | x :: l, h => by
    simp only [orI, if_pos (h x (by simp))]
    exact orI_none fun y hy => h y (by simp [hy])

theorem fn138 : FnOk Tryz.prog 138 6 [2] (bodyOf Tryz.f138) := ⟨Tryz.f138, Tryz.func138, by kernel_rfl, by decide, by kernel_rfl, by kernel_rfl⟩
theorem s138 (x : Int) : PSpec Tryz.prog 138 [.d (.int .i64 x)] (.d (.bool false)) := by
 refine PSpec.of fn138 (by simp) fun o nk => ?_
 refine wr ?_
 refine ua ?_
 refine u_nil ?_
 refine wr ?_
 refine um ?_
 refine um ?_
 refine ub ?_
 refine ua ?_
 refine u_nil ?_
 refine WP.ret ?_
 refine ret_ok rfl ?_ (by omega) (fun _ _ => rfl)
 -- ret 1
 simp

theorem fn127 : FnOk Tryz.prog 127 20 [4] (bodyOf Tryz.f127) := ⟨Tryz.f127, Tryz.func127, by kernel_rfl, by decide, by kernel_rfl, by kernel_rfl⟩
theorem s127 (a b : Int) : PSpec Tryz.prog 127 [.d (.int .i64 a), .d (.int .i64 b)] (.d (.int .i64 (cmpI a b))) := by
 refine PSpec.of fn127 (by simp) fun o nk => ?_
 refine wr ?_
 refine ua ?_
 refine u_nil ?_
 refine wr ?_
 refine um ?_
 refine u_step (o_pcall (s138 _) rfl ?_)
 refine ua ?_
 refine u_nil ?_
 refine wr ?_
 refine um ?_
 refine u_step (o_pcall (s138 _) rfl ?_)
 refine ua ?_
 refine u_nil ?_
 refine WP.seq fun K4 hK4 => ?_
 refine wr ?_
 refine um ?_
 refine u_nil ?_
 refine wc (fun hc6 => ?_) (fun hc6 => ?_) <;> try simp only [Q0, Q1, Q2, Q3, Q4, Q5, Q6, Q7, Q8, ge_iff_le, gt_iff_lt] at hc6
 ·
  cases hc6
 ·
  refine WP.skip ?_
  refine hK4 _ ?_
  refine WP.seq fun K7 hK7 => ?_
  refine wr ?_
  refine um ?_
  refine u_nil ?_
  refine wc (fun hc9 => ?_) (fun hc9 => ?_) <;> try simp only [Q0, Q1, Q2, Q3, Q4, Q5, Q6, Q7, Q8, ge_iff_le, gt_iff_lt] at hc9
  ·
   cases hc9
  ·
   refine WP.skip ?_
   refine hK7 _ ?_
   refine WP.seq fun K10 hK10 => ?_
   refine wr ?_
   refine um ?_
   refine um ?_
   refine ub ?_
   refine u_nil ?_
   refine wc (fun hc12 => ?_) (fun hc12 => ?_) <;> try simp only [Q0, Q1, Q2, Q3, Q4, Q5, Q6, Q7, Q8, ge_iff_le, gt_iff_lt] at hc12
   ·
    refine wr ?_
    refine ua ?_
    refine u_nil ?_
    refine WP.ret ?_
    refine ret_ok rfl ?_ (by omega) (fun _ _ => rfl)
    -- ret 1
    refine congrArg (D.int .i64) ?_
    simp only [cmpI]
    clear hK4 hK7 hK10
    grind
   ·
    refine WP.skip ?_
    refine hK10 _ ?_
    refine WP.seq fun K14 hK14 => ?_
    refine wr ?_
    refine um ?_
    refine um ?_
    refine ub ?_
    refine u_nil ?_
    refine wc (fun hc16 => ?_) (fun hc16 => ?_) <;> try simp only [Q0, Q1, Q2, Q3, Q4, Q5, Q6, Q7, Q8, ge_iff_le, gt_iff_lt] at hc16
    ·
     refine wr ?_
     refine ua ?_
     refine u_nil ?_
     refine WP.ret ?_
     refine ret_ok rfl ?_ (by omega) (fun _ _ => rfl)
     -- ret 2
     refine congrArg (D.int .i64) ?_
     simp only [cmpI]
     clear hK4 hK7 hK10 hK14
     grind
    ·
     refine WP.skip ?_
     refine hK14 _ ?_
     refine wr ?_
     refine ua ?_
     refine u_nil ?_
     refine WP.ret ?_
     refine ret_ok rfl ?_ (by omega) (fun _ _ => rfl)
     -- ret 3
     refine congrArg (D.int .i64) ?_
     simp only [cmpI]
     clear hK4 hK7 hK10 hK14
     grind

theorem fn126 : FnOk Tryz.prog 126 18 [2] (bodyOf Tryz.f126) := ⟨Tryz.f126, Tryz.func126, by kernel_rfl, by decide, by kernel_rfl, by kernel_rfl⟩
theorem s126 (l : List Int) : PSpec Tryz.prog 126 [.d (.sl 1 (l.map (D.int .i64)))] (.d (.int .i64 (orI l))) := by
 refine PSpec.bd fun hbd => ?_
 have hx : l.length ≤ 9223372036854775807 := by simpa using hbd.1.1
 refine PSpec.of fn126 (by simp) fun o nk => ?_
 refine wr ?_
 refine ua ?_
 refine u_nil ?_
 refine wr ?_
 refine ua ?_
 refine u_nil ?_
 refine WP.seq fun K3 hK3 => ?_
 refine wr ?_
 refine um ?_
 refine un th120 ?_
 refine um ?_
 refine u_nil ?_
 refine WP.block ?_
 refine WP.loopL (ι := Nat) (fun i => ⟨al [(3, .d (.int .i64 0)), (6, .d (.sl 1 (l.map (D.int .i64)))), (7, .d (.int .i64 (l.map (D.int .i64)).length)), (8, .d (.int .i64 i))], o, nk⟩) (fun i => i ≤ l.length ∧ ∀ x ∈ l.take i, x = 0) (fun i => l.length - i) (fun i hA => ?_) 0 ?_ ?_
 ·
  obtain ⟨hle_i, hin_i⟩ := hA
  refine wr ?_
  refine ub ?_
  refine u_nil ?_
  refine WP.seq fun K6 hK6 => ?_
  refine wc (fun hc7 => ?_) (fun hc7 => ?_) <;> try simp only [Q0, Q1, Q2, Q3, Q4, Q5, Q6, Q7, Q8, ge_iff_le, gt_iff_lt] at hc7
  ·
   refine WP.skip ?_
   refine hK6 _ ?_
   refine WP.seq fun K8 hK8 => ?_
   refine WP.block ?_
   refine wr ?_
   first | refine u_step (o_ia_map rfl rfl th120 rfl th3 rfl (by omega) ?_) | refine u_step (o_ia_vs rfl rfl th120 rfl th3 rfl (by omega) ?_)
   refine uL th3 ?_
   refine ua ?_
   refine u_nil ?_
   refine wr ?_
   refine um ?_
   refine um ?_
   refine ub ?_
   refine u_nil ?_
   refine wc (fun hc11 => ?_) (fun hc11 => ?_) <;> try simp only [Q0, Q1, Q2, Q3, Q4, Q5, Q6, Q7, Q8, ge_iff_le, gt_iff_lt] at hc11
   ·
    refine wr ?_
    refine um ?_
    refine ua ?_
    refine u_nil ?_
    refine WP.ret ?_
    refine ret_ok rfl ?_ (by omega) (fun _ _ => rfl)
    -- ret 1
    rw [orI_at (by omega) hin_i (by simpa using hc11)]
   ·
    refine WP.skip ?_
    refine hK8 _ ?_
    refine WP.reg tabOk rfl ?_
    refine ub ?_
    refine um ?_
    refine u_nil ?_
    -- back
    refine ⟨i + 1, ⟨by omega, ?_⟩, by omega, ?_⟩
    · rw [List.take_succ_eq_append_getElem (by omega)]
      intro x hx
      rcases List.mem_append.1 hx with h | h
      · exact hin_i x h
      · simp only [List.mem_singleton] at h; subst h; simpa using hc11
    · refine Le.al ?_
      simp only [List.forall_mem_cons]
      exact ⟨rfl, rfl, rfl, cnt (by omega), by simp⟩
  ·
   refine WP.exit ?_
   refine hK3 _ ?_
   refine wr ?_
   refine um ?_
   refine ua ?_
   refine u_nil ?_
   refine WP.ret ?_
   refine ret_ok rfl ?_ (by omega) (fun _ _ => rfl)
   -- ret 2
   rw [orI_none fun x hx => hin_i x (by rwa [List.take_of_length_le (by omega)])]
 ·
  simp
 ·
  refine Le.al ?_
  simp only [List.forall_mem_cons]
  exact ⟨rfl, rfl, rfl, rfl, by simp⟩

end Go.Proofs.YtfgampmhjfffdaaGreat.Abs

set_option linter.unusedVariables false
set_option linter.unusedSimpArgs false
set_option maxRecDepth 10000
namespace Go.Proofs.YtfgampmhjfffdaaGreat.Abs
open Go
/-- The place of a text among texts. -/
def idxS (ns : List Str) (s : Str) : Int := firstI (fun x => decide (s = x)) ns

end Go.Proofs.YtfgampmhjfffdaaGreat.Abs

set_option linter.unusedVariables false
set_option linter.unusedSimpArgs false
set_option maxRecDepth 10000
namespace Go.Proofs.YtfgampmhjfffdaaGreat.Abs
open Go
/-- Which parts an entry has, by its kind. -/
def fieldsV (k : Int) : Int := if k = 1 then 0 else if k = 7 then 3 else if k = 2 then 13 else if k = 4 then 5 else if k = 3 then 21 else if k = 5 ∨ k = 6 then 1 else -1

end Go.Proofs.YtfgampmhjfffdaaGreat.Abs

set_option linter.unusedVariables false
set_option linter.unusedSimpArgs false
set_option maxRecDepth 10000
namespace Go.Proofs.YtfgampmhjfffdaaGreat.Abs
open Go
theorem retT_ok {ts : List Nat} {sl : Nat → SV} {o o0 : Nat → Option AO} {nk nk0 : Nat} {xs : List D} (h1 : resOf ts ⟨sl, o, nk⟩ = .tup (xs.map .d)) (h3 : nk0 ≤ nk) (h4 : ∀ t, t < nk0 → o t = o0 t) :
    retQ ts (fun r o' nk' => r = .tup (xs.map .d) ∧ nk0 ≤ nk' ∧ ∀ t, t < nk0 → o' t = o0 t) .ret ⟨sl, o, nk⟩ := ⟨h1, h3, h4⟩
/-- Which parts an entry has, by its kind: a name, another one, an id, a document, changes. -/
def hasL (k : Int) : List D :=
  if k = 2 then [.bool true, .bool false, .bool true, .bool true, .bool false]
  else if k = 3 then [.bool true, .bool false, .bool true, .bool false, .bool true]
  else if k = 4 then [.bool true, .bool false, .bool true, .bool false, .bool false]
  else if k = 5 ∨ k = 6 then [.bool true, .bool false, .bool false, .bool false, .bool false]
  else if k = 7 then [.bool true, .bool true, .bool false, .bool false, .bool false]
  else [.bool false, .bool false, .bool false, .bool false, .bool false]

theorem fn11 : FnOk Tryz.prog 11 19 [2, 3, 4, 5, 6] (bodyOf Tryz.f11) := ⟨Tryz.f11, Tryz.func11, by kernel_rfl, by decide, by kernel_rfl, by kernel_rfl⟩
theorem s11 (k : Int) : PSpec Tryz.prog 11 [.d (.int .i64 k)] (.tup ((hasL k).map .d)) := by
 refine PSpec.of2 fn11 (by simp) fun o nk => ?_
 refine wr ?_
 refine ua ?_
 refine ua ?_
 refine ua ?_
 refine ua ?_
 refine ua ?_
 refine u_nil ?_
 refine WP.seq fun K2 hK2 => ?_
 refine wr ?_
 refine um ?_
 refine u_nil ?_
 refine WP.block ?_
 refine wr ?_
 refine ub ?_
 refine ua ?_
 refine u_nil ?_
 refine wc (fun hc5 => ?_) (fun hc5 => ?_) <;> try simp only [Q0, Q1, Q2, Q3, Q4, Q5, Q6, Q7, Q8, ge_iff_le, gt_iff_lt] at hc5
 ·
  refine wr ?_
  refine ua ?_
  refine ua ?_
  refine ua ?_
  refine ua ?_
  refine ua ?_
  refine u_nil ?_
  refine WP.ret ?_
  refine retT_ok ?_ (by omega) (fun _ _ => rfl)
  clear hK2
  simp only [beq_iff_eq, beq_eq_false_iff_ne, ne_eq] at hc5
  first | exact (show SV.tup (List.map SV.d [.bool true, .bool false, .bool true, .bool true, .bool false]) = _ from by rw [show hasL k = [.bool true, .bool false, .bool true, .bool true, .bool false] from by simp only [hasL]; grind]) | exact (show SV.tup (List.map SV.d [.bool true, .bool false, .bool true, .bool false, .bool true]) = _ from by rw [show hasL k = [.bool true, .bool false, .bool true, .bool false, .bool true] from by simp only [hasL]; grind]) | exact (show SV.tup (List.map SV.d [.bool true, .bool false, .bool true, .bool false, .bool false]) = _ from by rw [show hasL k = [.bool true, .bool false, .bool true, .bool false, .bool false] from by simp only [hasL]; grind]) | exact (show SV.tup (List.map SV.d [.bool true, .bool false, .bool false, .bool false, .bool false]) = _ from by rw [show hasL k = [.bool true, .bool false, .bool false, .bool false, .bool false] from by simp only [hasL]; grind]) | exact (show SV.tup (List.map SV.d [.bool true, .bool true, .bool false, .bool false, .bool false]) = _ from by rw [show hasL k = [.bool true, .bool true, .bool false, .bool false, .bool false] from by simp only [hasL]; grind]) | exact (show SV.tup (List.map SV.d [.bool false, .bool false, .bool false, .bool false, .bool false]) = _ from by rw [show hasL k = [.bool false, .bool false, .bool false, .bool false, .bool false] from by simp only [hasL]; grind])
 ·
  refine wr ?_
  refine ub ?_
  refine ua ?_
  refine u_nil ?_
  refine wc (fun hc8 => ?_) (fun hc8 => ?_) <;> try simp only [Q0, Q1, Q2, Q3, Q4, Q5, Q6, Q7, Q8, ge_iff_le, gt_iff_lt] at hc8
  ·
   refine wr ?_
   refine ua ?_
   refine ua ?_
   refine ua ?_
   refine ua ?_
   refine ua ?_
   refine u_nil ?_
   refine WP.ret ?_
   refine retT_ok ?_ (by omega) (fun _ _ => rfl)
   clear hK2
   simp only [beq_iff_eq, beq_eq_false_iff_ne, ne_eq] at hc5 hc8
   first | exact (show SV.tup (List.map SV.d [.bool true, .bool false, .bool true, .bool true, .bool false]) = _ from by rw [show hasL k = [.bool true, .bool false, .bool true, .bool true, .bool false] from by simp only [hasL]; grind]) | exact (show SV.tup (List.map SV.d [.bool true, .bool false, .bool true, .bool false, .bool true]) = _ from by rw [show hasL k = [.bool true, .bool false, .bool true, .bool false, .bool true] from by simp only [hasL]; grind]) | exact (show SV.tup (List.map SV.d [.bool true, .bool false, .bool true, .bool false, .bool false]) = _ from by rw [show hasL k = [.bool true, .bool false, .bool true, .bool false, .bool false] from by simp only [hasL]; grind]) | exact (show SV.tup (List.map SV.d [.bool true, .bool false, .bool false, .bool false, .bool false]) = _ from by rw [show hasL k = [.bool true, .bool false, .bool false, .bool false, .bool false] from by simp only [hasL]; grind]) | exact (show SV.tup (List.map SV.d [.bool true, .bool true, .bool false, .bool false, .bool false]) = _ from by rw [show hasL k = [.bool true, .bool true, .bool false, .bool false, .bool false] from by simp only [hasL]; grind]) | exact (show SV.tup (List.map SV.d [.bool false, .bool false, .bool false, .bool false, .bool false]) = _ from by rw [show hasL k = [.bool false, .bool false, .bool false, .bool false, .bool false] from by simp only [hasL]; grind])
  ·
   refine wr ?_
   refine ub ?_
   refine ua ?_
   refine u_nil ?_
   refine wc (fun hc11 => ?_) (fun hc11 => ?_) <;> try simp only [Q0, Q1, Q2, Q3, Q4, Q5, Q6, Q7, Q8, ge_iff_le, gt_iff_lt] at hc11
   ·
    refine wr ?_
    refine ua ?_
    refine ua ?_
    refine ua ?_
    refine ua ?_
    refine ua ?_
    refine u_nil ?_
    refine WP.ret ?_
    refine retT_ok ?_ (by omega) (fun _ _ => rfl)
    clear hK2
    simp only [beq_iff_eq, beq_eq_false_iff_ne, ne_eq] at hc5 hc8 hc11
    first | exact (show SV.tup (List.map SV.d [.bool true, .bool false, .bool true, .bool true, .bool false]) = _ from by rw [show hasL k = [.bool true, .bool false, .bool true, .bool true, .bool false] from by simp only [hasL]; grind]) | exact (show SV.tup (List.map SV.d [.bool true, .bool false, .bool true, .bool false, .bool true]) = _ from by rw [show hasL k = [.bool true, .bool false, .bool true, .bool false, .bool true] from by simp only [hasL]; grind]) | exact (show SV.tup (List.map SV.d [.bool true, .bool false, .bool true, .bool false, .bool false]) = _ from by rw [show hasL k = [.bool true, .bool false, .bool true, .bool false, .bool false] from by simp only [hasL]; grind]) | exact (show SV.tup (List.map SV.d [.bool true, .bool false, .bool false, .bool false, .bool false]) = _ from by rw [show hasL k = [.bool true, .bool false, .bool false, .bool false, .bool false] from by simp only [hasL]; grind]) | exact (show SV.tup (List.map SV.d [.bool true, .bool true, .bool false, .bool false, .bool false]) = _ from by rw [show hasL k = [.bool true, .bool true, .bool false, .bool false, .bool false] from by simp only [hasL]; grind]) | exact (show SV.tup (List.map SV.d [.bool false, .bool false, .bool false, .bool false, .bool false]) = _ from by rw [show hasL k = [.bool false, .bool false, .bool false, .bool false, .bool false] from by simp only [hasL]; grind])
   ·
    refine WP.seq fun K13 hK13 => ?_
    refine wr ?_
    refine ub ?_
    refine ua ?_
    refine u_nil ?_
    refine wc (fun hc15 => ?_) (fun hc15 => ?_) <;> try simp only [Q0, Q1, Q2, Q3, Q4, Q5, Q6, Q7, Q8, ge_iff_le, gt_iff_lt] at hc15
    ·
     refine WP.skip ?_
     refine hK13 _ ?_
     refine wc (fun hc16 => ?_) (fun hc16 => ?_) <;> try simp only [Q0, Q1, Q2, Q3, Q4, Q5, Q6, Q7, Q8, ge_iff_le, gt_iff_lt] at hc16
     ·
      refine wr ?_
      refine ua ?_
      refine ua ?_
      refine ua ?_
      refine ua ?_
      refine ua ?_
      refine u_nil ?_
      refine WP.ret ?_
      refine retT_ok ?_ (by omega) (fun _ _ => rfl)
      clear hK2 hK13
      simp only [beq_iff_eq, beq_eq_false_iff_ne, ne_eq] at hc5 hc8 hc11 hc15 hc16
      first | exact (show SV.tup (List.map SV.d [.bool true, .bool false, .bool true, .bool true, .bool false]) = _ from by rw [show hasL k = [.bool true, .bool false, .bool true, .bool true, .bool false] from by simp only [hasL]; grind]) | exact (show SV.tup (List.map SV.d [.bool true, .bool false, .bool true, .bool false, .bool true]) = _ from by rw [show hasL k = [.bool true, .bool false, .bool true, .bool false, .bool true] from by simp only [hasL]; grind]) | exact (show SV.tup (List.map SV.d [.bool true, .bool false, .bool true, .bool false, .bool false]) = _ from by rw [show hasL k = [.bool true, .bool false, .bool true, .bool false, .bool false] from by simp only [hasL]; grind]) | exact (show SV.tup (List.map SV.d [.bool true, .bool false, .bool false, .bool false, .bool false]) = _ from by rw [show hasL k = [.bool true, .bool false, .bool false, .bool false, .bool false] from by simp only [hasL]; grind]) | exact (show SV.tup (List.map SV.d [.bool true, .bool true, .bool false, .bool false, .bool false]) = _ from by rw [show hasL k = [.bool true, .bool true, .bool false, .bool false, .bool false] from by simp only [hasL]; grind]) | exact (show SV.tup (List.map SV.d [.bool false, .bool false, .bool false, .bool false, .bool false]) = _ from by rw [show hasL k = [.bool false, .bool false, .bool false, .bool false, .bool false] from by simp only [hasL]; grind])
     ·
      refine wr ?_
      refine ub ?_
      refine ua ?_
      refine u_nil ?_
      refine wc (fun hc19 => ?_) (fun hc19 => ?_) <;> try simp only [Q0, Q1, Q2, Q3, Q4, Q5, Q6, Q7, Q8, ge_iff_le, gt_iff_lt] at hc19
      ·
       refine wr ?_
       refine ua ?_
       refine ua ?_
       refine ua ?_
       refine ua ?_
       refine ua ?_
       refine u_nil ?_
       refine WP.ret ?_
       refine retT_ok ?_ (by omega) (fun _ _ => rfl)
       clear hK2 hK13
       simp only [beq_iff_eq, beq_eq_false_iff_ne, ne_eq] at hc5 hc8 hc11 hc15 hc16 hc19
       first | exact (show SV.tup (List.map SV.d [.bool true, .bool false, .bool true, .bool true, .bool false]) = _ from by rw [show hasL k = [.bool true, .bool false, .bool true, .bool true, .bool false] from by simp only [hasL]; grind]) | exact (show SV.tup (List.map SV.d [.bool true, .bool false, .bool true, .bool false, .bool true]) = _ from by rw [show hasL k = [.bool true, .bool false, .bool true, .bool false, .bool true] from by simp only [hasL]; grind]) | exact (show SV.tup (List.map SV.d [.bool true, .bool false, .bool true, .bool false, .bool false]) = _ from by rw [show hasL k = [.bool true, .bool false, .bool true, .bool false, .bool false] from by simp only [hasL]; grind]) | exact (show SV.tup (List.map SV.d [.bool true, .bool false, .bool false, .bool false, .bool false]) = _ from by rw [show hasL k = [.bool true, .bool false, .bool false, .bool false, .bool false] from by simp only [hasL]; grind]) | exact (show SV.tup (List.map SV.d [.bool true, .bool true, .bool false, .bool false, .bool false]) = _ from by rw [show hasL k = [.bool true, .bool true, .bool false, .bool false, .bool false] from by simp only [hasL]; grind]) | exact (show SV.tup (List.map SV.d [.bool false, .bool false, .bool false, .bool false, .bool false]) = _ from by rw [show hasL k = [.bool false, .bool false, .bool false, .bool false, .bool false] from by simp only [hasL]; grind])
      ·
       refine WP.skip ?_
       refine hK2 _ ?_
       refine wr ?_
       refine ua ?_
       refine ua ?_
       refine ua ?_
       refine ua ?_
       refine ua ?_
       refine u_nil ?_
       refine WP.ret ?_
       refine retT_ok ?_ (by omega) (fun _ _ => rfl)
       clear hK2 hK13
       simp only [beq_iff_eq, beq_eq_false_iff_ne, ne_eq] at hc5 hc8 hc11 hc15 hc16 hc19
       first | exact (show SV.tup (List.map SV.d [.bool true, .bool false, .bool true, .bool true, .bool false]) = _ from by rw [show hasL k = [.bool true, .bool false, .bool true, .bool true, .bool false] from by simp only [hasL]; grind]) | exact (show SV.tup (List.map SV.d [.bool true, .bool false, .bool true, .bool false, .bool true]) = _ from by rw [show hasL k = [.bool true, .bool false, .bool true, .bool false, .bool true] from by simp only [hasL]; grind]) | exact (show SV.tup (List.map SV.d [.bool true, .bool false, .bool true, .bool false, .bool false]) = _ from by rw [show hasL k = [.bool true, .bool false, .bool true, .bool false, .bool false] from by simp only [hasL]; grind]) | exact (show SV.tup (List.map SV.d [.bool true, .bool false, .bool false, .bool false, .bool false]) = _ from by rw [show hasL k = [.bool true, .bool false, .bool false, .bool false, .bool false] from by simp only [hasL]; grind]) | exact (show SV.tup (List.map SV.d [.bool true, .bool true, .bool false, .bool false, .bool false]) = _ from by rw [show hasL k = [.bool true, .bool true, .bool false, .bool false, .bool false] from by simp only [hasL]; grind]) | exact (show SV.tup (List.map SV.d [.bool false, .bool false, .bool false, .bool false, .bool false]) = _ from by rw [show hasL k = [.bool false, .bool false, .bool false, .bool false, .bool false] from by simp only [hasL]; grind])
    ·
     refine WP.reg tabOk rfl ?_
     refine ub ?_
     refine ua ?_
     refine u_nil ?_
     refine hK13 _ ?_
     refine wc (fun hc22 => ?_) (fun hc22 => ?_) <;> try simp only [Q0, Q1, Q2, Q3, Q4, Q5, Q6, Q7, Q8, ge_iff_le, gt_iff_lt] at hc22
     ·
      refine wr ?_
      refine ua ?_
      refine ua ?_
      refine ua ?_
      refine ua ?_
      refine ua ?_
      refine u_nil ?_
      refine WP.ret ?_
      refine retT_ok ?_ (by omega) (fun _ _ => rfl)
      clear hK2 hK13
      simp only [beq_iff_eq, beq_eq_false_iff_ne, ne_eq] at hc5 hc8 hc11 hc15 hc22
      first | exact (show SV.tup (List.map SV.d [.bool true, .bool false, .bool true, .bool true, .bool false]) = _ from by rw [show hasL k = [.bool true, .bool false, .bool true, .bool true, .bool false] from by simp only [hasL]; grind]) | exact (show SV.tup (List.map SV.d [.bool true, .bool false, .bool true, .bool false, .bool true]) = _ from by rw [show hasL k = [.bool true, .bool false, .bool true, .bool false, .bool true] from by simp only [hasL]; grind]) | exact (show SV.tup (List.map SV.d [.bool true, .bool false, .bool true, .bool false, .bool false]) = _ from by rw [show hasL k = [.bool true, .bool false, .bool true, .bool false, .bool false] from by simp only [hasL]; grind]) | exact (show SV.tup (List.map SV.d [.bool true, .bool false, .bool false, .bool false, .bool false]) = _ from by rw [show hasL k = [.bool true, .bool false, .bool false, .bool false, .bool false] from by simp only [hasL]; grind]) | exact (show SV.tup (List.map SV.d [.bool true, .bool true, .bool false, .bool false, .bool false]) = _ from by rw [show hasL k = [.bool true, .bool true, .bool false, .bool false, .bool false] from by simp only [hasL]; grind]) | exact (show SV.tup (List.map SV.d [.bool false, .bool false, .bool false, .bool false, .bool false]) = _ from by rw [show hasL k = [.bool false, .bool false, .bool false, .bool false, .bool false] from by simp only [hasL]; grind])
     ·
      refine wr ?_
      refine ub ?_
      refine ua ?_
      refine u_nil ?_
      refine wc (fun hc25 => ?_) (fun hc25 => ?_) <;> try simp only [Q0, Q1, Q2, Q3, Q4, Q5, Q6, Q7, Q8, ge_iff_le, gt_iff_lt] at hc25
      ·
       refine wr ?_
       refine ua ?_
       refine ua ?_
       refine ua ?_
       refine ua ?_
       refine ua ?_
       refine u_nil ?_
       refine WP.ret ?_
       refine retT_ok ?_ (by omega) (fun _ _ => rfl)
       clear hK2 hK13
       simp only [beq_iff_eq, beq_eq_false_iff_ne, ne_eq] at hc5 hc8 hc11 hc15 hc22 hc25
       first | exact (show SV.tup (List.map SV.d [.bool true, .bool false, .bool true, .bool true, .bool false]) = _ from by rw [show hasL k = [.bool true, .bool false, .bool true, .bool true, .bool false] from by simp only [hasL]; grind]) | exact (show SV.tup (List.map SV.d [.bool true, .bool false, .bool true, .bool false, .bool true]) = _ from by rw [show hasL k = [.bool true, .bool false, .bool true, .bool false, .bool true] from by simp only [hasL]; grind]) | exact (show SV.tup (List.map SV.d [.bool true, .bool false, .bool true, .bool false, .bool false]) = _ from by rw [show hasL k = [.bool true, .bool false, .bool true, .bool false, .bool false] from by simp only [hasL]; grind]) | exact (show SV.tup (List.map SV.d [.bool true, .bool false, .bool false, .bool false, .bool false]) = _ from by rw [show hasL k = [.bool true, .bool false, .bool false, .bool false, .bool false] from by simp only [hasL]; grind]) | exact (show SV.tup (List.map SV.d [.bool true, .bool true, .bool false, .bool false, .bool false]) = _ from by rw [show hasL k = [.bool true, .bool true, .bool false, .bool false, .bool false] from by simp only [hasL]; grind]) | exact (show SV.tup (List.map SV.d [.bool false, .bool false, .bool false, .bool false, .bool false]) = _ from by rw [show hasL k = [.bool false, .bool false, .bool false, .bool false, .bool false] from by simp only [hasL]; grind])
      ·
       refine WP.skip ?_
       refine hK2 _ ?_
       refine wr ?_
       refine ua ?_
       refine ua ?_
       refine ua ?_
       refine ua ?_
       refine ua ?_
       refine u_nil ?_
       refine WP.ret ?_
       refine retT_ok ?_ (by omega) (fun _ _ => rfl)
       clear hK2 hK13
       simp only [beq_iff_eq, beq_eq_false_iff_ne, ne_eq] at hc5 hc8 hc11 hc15 hc22 hc25
       first | exact (show SV.tup (List.map SV.d [.bool true, .bool false, .bool true, .bool true, .bool false]) = _ from by rw [show hasL k = [.bool true, .bool false, .bool true, .bool true, .bool false] from by simp only [hasL]; grind]) | exact (show SV.tup (List.map SV.d [.bool true, .bool false, .bool true, .bool false, .bool true]) = _ from by rw [show hasL k = [.bool true, .bool false, .bool true, .bool false, .bool true] from by simp only [hasL]; grind]) | exact (show SV.tup (List.map SV.d [.bool true, .bool false, .bool true, .bool false, .bool false]) = _ from by rw [show hasL k = [.bool true, .bool false, .bool true, .bool false, .bool false] from by simp only [hasL]; grind]) | exact (show SV.tup (List.map SV.d [.bool true, .bool false, .bool false, .bool false, .bool false]) = _ from by rw [show hasL k = [.bool true, .bool false, .bool false, .bool false, .bool false] from by simp only [hasL]; grind]) | exact (show SV.tup (List.map SV.d [.bool true, .bool true, .bool false, .bool false, .bool false]) = _ from by rw [show hasL k = [.bool true, .bool true, .bool false, .bool false, .bool false] from by simp only [hasL]; grind]) | exact (show SV.tup (List.map SV.d [.bool false, .bool false, .bool false, .bool false, .bool false]) = _ from by rw [show hasL k = [.bool false, .bool false, .bool false, .bool false, .bool false] from by simp only [hasL]; grind])

end Go.Proofs.YtfgampmhjfffdaaGreat.Abs

set_option linter.unusedVariables false
set_option linter.unusedSimpArgs false
set_option maxRecDepth 10000
namespace Go.Proofs.YtfgampmhjfffdaaGreat.Abs
open Go
theorem PSpec.of2C {P : Program} {Θ : Tab} (hΘ : TabOk P Θ) {f : FuncId} {n : Nat} {rs : List ResultVar} {c : Code} {args : List SV} {xs : List D} (hf : FnOkC P f n rs c) (hn : args.length ≤ n)
    (h : ∀ o nk, WP P n nk c ⟨slots args, o, nk⟩ (retC Θ rs fun r o' nk' => r = .tup (xs.map .d) ∧ nk ≤ nk' ∧ ∀ t, t < nk → o' t = o t)) : PSpec P f args (.tup (xs.map .d)) := fun o nk => by
  refine Spec.pure (fun m => ?_) ?_ (Spec.of_bodyC hΘ hf hn (h o nk))
  · exact lts_of fun i c hc => by
      rw [List.getElem?_map] at hc
      obtain ⟨d, _, rfl⟩ := Option.map_eq_some_iff.1 hc
      trivial
  · show SV.tup (SV.rens id (xs.map .d)) = _
    rw [SV.rens_id]
theorem retC_ok {Θ : Tab} {a t b : Nat} {sl : Nat → SV} {o o0 : Nat → Option AO} {nk nk0 : Nat} {x y x' y' : D} (h1 : ResIs Θ ⟨sl, o, nk⟩ (.cell a t) (.d x')) (h2 : sl b = .d y') (hx : x' = x) (hy : y' = y) (h3 : nk0 ≤ nk) (h4 : ∀ t, t < nk0 → o t = o0 t) :
    retC Θ [.cell a t, .tmp b] (fun r o' nk' => r = .tup ([x, y].map .d) ∧ nk0 ≤ nk' ∧ ∀ t, t < nk0 → o' t = o0 t) .ret ⟨sl, o, nk⟩ :=
  ⟨[.d x', .d y'], ⟨h1, h2.symm, trivial⟩, by rw [hx, hy]; rfl, h3, h4⟩
end Go.Proofs.YtfgampmhjfffdaaGreat.Abs

set_option linter.unusedVariables false
set_option linter.unusedSimpArgs false
set_option maxRecDepth 10000
namespace Go.Proofs.YtfgampmhjfffdaaGreat.Abs
open Go
/-- The number that digits say. -/
def digN : Str → Nat → Nat
  | [], n => n
  | c :: s, n => digN s (10 * n + (c.toNat - 48))
def isDig (c : UInt8) : Bool := decide (48 ≤ c.toNat) && decide (c.toNat ≤ 57)
/-- The index that a step says; -1 if none. -/
def stepI (s : Str) : Int := if s.length < 1 ∨ 3 < s.length ∨ (s[0]? = some 48 ∧ 1 < s.length) then -1 else if s.all isDig then (digN s 0 : Int) else -1
theorem digN_snoc : ∀ (s : Str) (c : UInt8) (n : Nat), digN (s ++ [c]) n = 10 * digN s n + (c.toNat - 48)
  | [], c, n => rfl
  | x :: s, c, n => by simp only [List.cons_append, digN]; exact digN_snoc s c _
theorem digN_lt : ∀ (s : Str) (n m : Nat), s.all isDig = true → n < 10 ^ m → digN s n < 10 ^ (m + s.length)
  | [], n, m, _, hn => hn
  | c :: s, n, m, h, hn => by
    simp only [List.all_cons, Bool.and_eq_true, isDig, decide_eq_true_eq] at h
    have h1 : 10 * n + (c.toNat - 48) < 10 ^ (m + 1) := by rw [Nat.pow_succ]; omega
    have := digN_lt s (10 * n + (c.toNat - 48)) (m + 1) (by simpa [isDig] using h.2) h1
    simp only [digN, List.length_cons]
    rwa [show m + (s.length + 1) = m + 1 + s.length by omega]
theorem digN_le {s : Str} (h : s.all isDig = true) (hl : s.length ≤ 3) : digN s 0 < 1000 := by
  have := digN_lt s 0 0 h (by simp)
  have h2 : 10 ^ (0 + s.length) ≤ 10 ^ 3 := Nat.pow_le_pow_right (by omega) (by omega)
  omega
theorem dig_step {n : Nat} {c : UInt8} (hn : n < 1000) (h1 : 48 ≤ c.toNat) : SV.d (.int .i64 (IntKind.i64.wrap (IntKind.i64.wrap (10 * (n : Int)) + IntKind.i64.wrap (IntKind.u8.wrap ((c.toNat : Int) - 48))))) = SV.d (.int .i64 ((10 * n + (c.toNat - 48) : Nat) : Int)) := by
  have hc : c.toNat < 256 := c.toNat_lt
  rw [wrap_u8, wrap_i64 (m := 10 * (n : Int)) (by omega) (by omega), wrap_i64 (m := ((c.toNat : Int) - 48) % 256) (by omega) (by omega), wrap_i64 (by omega) (by omega)]
  refine congrArg (fun m : Int => SV.d (.int .i64 m)) ?_
  omega
theorem stepI_neg {s : Str} (h1 : 1 ≤ s.length) (h3 : s.length ≤ 3) {a b : Bool} (hq : (a || b) = false ∧ (decide (bAt s (0 : Int).toNat = 48) && decide ((1 : Int) < s.length)) = false) : stepI s = if s.all isDig then (digN s 0 : Int) else -1 := by
  have h0 : 0 < s.length := by omega
  unfold stepI
  rw [if_neg]
  rintro (h | h | ⟨h, h2⟩)
  · omega
  · omega
  · have hq2 := hq.2
    rw [List.getElem?_eq_getElem h0, Option.some.injEq] at h
    rw [Int.toNat_zero, bAt_eq h0, h] at hq2
    simp at hq2
    omega

theorem fn92 : FnOk Tryz.prog 92 48 [2] (bodyOf Tryz.f92) := ⟨Tryz.f92, Tryz.func92, by kernel_rfl, by decide, by kernel_rfl, by kernel_rfl⟩
theorem s92 (s : Str) : PSpec Tryz.prog 92 [.d (.str s)] (.d (.int .i64 (stepI s))) := by
 refine PSpec.of fn92 (by simp) fun o nk => ?_
 refine wr ?_
 refine ua ?_
 refine u_nil ?_
 refine WP.seq fun K2 hK2 => ?_
 refine wr ?_
 refine um ?_
 refine u_step (o_len_str rfl th9 rfl ?_)
 refine ub ?_
 refine um ?_
 apply gF
 · rfl
 · intro hg
   exact pm
 apply gF
 · rfl
 · intro hg; try simp only [hg, ct]; try simp only [hg, ct, Bt]
   refine o_len_str rfl th9 rfl ⟨rfl, rfl, rfl⟩
 apply gF
 · rfl
 · intro hg; try simp only [hg, ct]; try simp only [hg, ct, Bt]
   exact pb
 refine uO ?_
 refine um ?_
 apply gF
 · rfl
 · intro hg
   exact pm
 apply gF
 · rfl
 · intro hg; try simp only [hg, ct]; try simp only [hg, ct, Bt]
   have hg2 := hg; try simp only [Q0, Q1, Q2, Q3, Q4, Q5, Q6, Q9, Qa, Qb, Qc, Qd] at hg2
   refine o_ix rfl rfl th9 rfl ?_ ?_ ⟨rfl, rfl, rfl⟩
   · decide
   · simp at hg2; simp; omega
 apply gF
 · rfl
 · intro hg; try simp only [hg, ct]; try simp only [hg, ct, Bt]
   exact pb
 apply gF
 · rfl
 · intro hg; try simp only [hg, ct]; try simp only [hg, ct, Bt]
   exact pm
 apply u_guard
 · exact GC.ct _ _
 · intro hg
   exact pm
 apply u_guard
 · exact GC.ct _ _
 · intro hg; try simp only [hg, ct]; try simp only [hg, ct, Bt]
   refine o_len_str rfl th9 rfl ⟨rfl, rfl, rfl⟩
 apply u_guard
 · exact GC.ct _ _
 · intro hg; try simp only [hg, ct]; try simp only [hg, ct, Bt]
   exact pb
 apply gF
 · rfl
 · intro hg; try simp only [hg, ct]; try simp only [hg, ct, Bt]
   exact pA
 refine uO ?_
 refine u_nil ?_
 refine wc (fun hc4 => ?_) (fun hc4 => ?_) <;> try simp only [Q0, Q1, Q2, Q3, Q4, Q5, Q6, Q7, Q8, ge_iff_le, gt_iff_lt] at hc4
 ·
  refine wr ?_
  refine ua ?_
  refine u_nil ?_
  refine WP.ret ?_
  refine ret_ok rfl ?_ (by omega) (fun _ _ => rfl)
  -- ret 1
  clear hK2
  refine congrArg (D.int .i64) ?_
  have hq := hc4
  simp only [stepI]
  rw [if_pos]
  simp only [Bool.or_eq_true, Bool.and_eq_true, decide_eq_true_eq, beq_iff_eq] at hq
  rcases hq with (h | h) | ⟨h, h2⟩
  · exact .inl (by omega)
  · exact .inr (.inl (by omega))
  · refine .inr (.inr ⟨?_, by omega⟩)
    have h0 : 0 < s.length := by omega
    rw [Int.toNat_zero, bAt_eq h0] at h
    rw [List.getElem?_eq_getElem h0, (toNat_eq (n := 48) (by omega)).1 h]; rfl
 ·
  have hq := Bool.or_eq_false_iff.1 hc4
  have hq1 := Bool.or_eq_false_iff.1 hq.1
  have hl1 : 1 ≤ s.length := by have := hq1.1; simp at this; omega
  have hl3 : s.length ≤ 3 := by have := hq1.2; simp at this; omega
  refine WP.skip ?_
  refine hK2 _ ?_
  refine wr ?_
  refine ua ?_
  refine u_nil ?_
  refine WP.seq fun K7 hK7 => ?_
  refine wr ?_
  refine ua ?_
  refine u_nil ?_
  refine WP.block ?_
  refine WP.loopL (ι := Nat) (fun i => ⟨al [(0, .d (.str s)), (3, .d (.int .i64 (digN (s.take i) 0 : Nat))), (4, .d (.int .i64 i))], o, nk⟩) (fun i => i ≤ s.length ∧ (s.take i).all isDig = true) (fun i => s.length - i) (fun i hA => ?_) 0 ?_ ?_
  ·
   obtain ⟨hle_i, hin_i⟩ := hA
   refine WP.seq fun K9 hK9 => ?_
   refine wr ?_
   refine um ?_
   refine um ?_
   refine u_step (o_len_str rfl th9 rfl ?_)
   refine ub ?_
   refine u_nil ?_
   refine wc (fun hc11 => ?_) (fun hc11 => ?_) <;> try simp only [Q0, Q1, Q2, Q3, Q4, Q5, Q6, Q7, Q8, ge_iff_le, gt_iff_lt] at hc11
   ·
    refine WP.skip ?_
    refine hK9 _ ?_
    refine WP.seq fun K12 hK12 => ?_
    refine WP.block ?_
    refine WP.seq fun K13 hK13 => ?_
    refine wr ?_
    refine um ?_
    refine um ?_
    refine u_step (o_ix rfl rfl th9 rfl ?_ ?_ ?_)
    · first | exact Int.natCast_nonneg _ | decide
    · first | assumption | (simp; omega) | omega
    refine ub ?_
    refine um ?_
    apply gF
    · rfl
    · intro hg
      exact pm
    apply gF
    · rfl
    · intro hg
      exact pm
    apply gF
    · rfl
    · intro hg; try simp only [hg, ct]; try simp only [hg, ct, Bt]
      have hg2 := hg; try simp only [Q0, Q1, Q2, Q3, Q4, Q5, Q6, Q9, Qa, Qb, Qc, Qd] at hg2
      refine o_ix rfl rfl th9 rfl ?_ ?_ ⟨rfl, rfl, rfl⟩
      · first | exact Int.natCast_nonneg _ | decide
      · first | assumption | (simp; omega) | omega
    apply gF
    · rfl
    · intro hg; try simp only [hg, ct]; try simp only [hg, ct, Bt]
      exact pb
    refine uO ?_
    refine u_nil ?_
    refine wc (fun hc15 => ?_) (fun hc15 => ?_) <;> try simp only [Q0, Q1, Q2, Q3, Q4, Q5, Q6, Q7, Q8, ge_iff_le, gt_iff_lt] at hc15
    ·
     refine wr ?_
     refine ua ?_
     refine u_nil ?_
     refine WP.ret ?_
     refine ret_ok rfl ?_ (by omega) (fun _ _ => rfl)
     -- ret 2
     clear hK2 hK7 hK9 hK12 hK13
     have hn := stepI_neg hl1 hl3 hq
     have he := bAt_eq (l := s) (i := i) (by omega)
     have hb := hc15
     simp only [Int.toNat_natCast, he, Bool.or_eq_true, decide_eq_true_eq] at hb
     have hd : isDig s[i] = false := by simp only [isDig, Bool.and_eq_false_iff, decide_eq_false_iff_not]; omega
     rw [hn, if_neg (by rw [all_false (p := isDig) (by omega) hd]; simp)]
    ·
     refine WP.skip ?_
     refine hK13 _ ?_
     refine WP.reg tabOk rfl ?_
     refine um ?_
     refine ub ?_
     refine um ?_
     refine um ?_
     refine u_step (o_ix rfl rfl th9 rfl ?_ ?_ ?_)
     · first | exact Int.natCast_nonneg _ | decide
     · first | assumption | (simp; omega) | omega
     refine ub ?_
     refine uc th5 th3 ?_
     refine ub ?_
     refine ua ?_
     refine u_nil ?_
     refine hK12 _ ?_
     refine WP.reg tabOk rfl ?_
     refine um ?_
     refine ub ?_
     refine ua ?_
     refine u_nil ?_
     -- back
     have hb := Bool.or_eq_false_iff.1 hc15
     have he := bAt_eq (l := s) (i := i) (by omega)
     simp only [Int.toNat_natCast, he, decide_eq_false_iff_not] at hb
     have hd : isDig s[i] = true := by simp only [isDig, Bool.and_eq_true, decide_eq_true_eq]; omega
     have hlt := digN_le hin_i (by simp; omega)
     refine ⟨i + 1, ⟨by omega, by rw [all_snoc (by omega), hin_i, hd]; rfl⟩, by omega, ?_⟩
     refine Le.al ?_
     simp only [List.forall_mem_cons]
     refine ⟨rfl, ?_, cnt (by omega), by simp⟩
     rw [take_snoc (by omega), digN_snoc, ← dig_step hlt (by omega), ← he]
     rfl
   ·
    refine WP.exit ?_
    refine hK7 _ ?_
    refine wr ?_
    refine um ?_
    refine ua ?_
    refine u_nil ?_
    refine WP.ret ?_
    refine ret_ok rfl ?_ (by omega) (fun _ _ => rfl)
    -- ret 3
    clear hK2 hK7 hK9
    have hn := stepI_neg hl1 hl3 hq
    have h1 := all_true (by omega) hin_i
    rw [hn, if_pos h1, List.take_of_length_le (by omega)]
  ·
   simp
  ·
   refine Le.al ?_
   simp only [List.forall_mem_cons]
   exact ⟨rfl, rfl, rfl, by simp⟩

end Go.Proofs.YtfgampmhjfffdaaGreat.Abs

set_option linter.unusedVariables false
set_option linter.unusedSimpArgs false
set_option maxRecDepth 10000
namespace Go.Proofs.YtfgampmhjfffdaaGreat.Abs
open Go
end Go.Proofs.YtfgampmhjfffdaaGreat.Abs

set_option linter.unusedVariables false
set_option linter.unusedSimpArgs false
set_option maxRecDepth 10000
namespace Go.Proofs.YtfgampmhjfffdaaGreat.Abs
open Go
theorem cmpI_zero {a b : Int} : cmpI a b = 0 ↔ a = b := by unfold cmpI; split <;> (try split) <;> omega
theorem orI_zero {x : Int} {r : List Int} : orI (x :: r) = 0 ↔ x = 0 ∧ orI r = 0 := by
  simp only [orI]; split <;> simp_all
theorem cmpB_zero : ∀ {s t : Str}, Go.Lib.compareBytes s t = 0 ↔ s = t
  | [], [] => by simp [Go.Lib.compareBytes]
  | [], _ :: _ => by simp [Go.Lib.compareBytes]
  | _ :: _, [] => by simp [Go.Lib.compareBytes]
  | a :: s, b :: t => by
    have ih := cmpB_zero (s := s) (t := t)
    simp only [Go.Lib.compareBytes, List.cons.injEq]
    by_cases h1 : a < b
    · have : a ≠ b := fun e => by subst e; exact UInt8.lt_irrefl _ h1
      simp [h1, this]
    · by_cases h2 : b < a
      · have : a ≠ b := fun e => by subst e; exact UInt8.lt_irrefl _ h2
        simp [h1, h2, this]
      · have : a = b := UInt8.le_antisymm (UInt8.not_lt.1 h2) (UInt8.not_lt.1 h1)
        simp [h1, h2, this, ih]
mutual
/-- The order of two values that may be. -/
def cmpV : Val → Val → Int
  | .mk k i t xs ns, w => orI [cmpI k w.kind, cmpI i w.int, Go.Lib.compareBytes t w.text, cmpsV xs (decide (k = 7)) w.items ns w.names]
def cmpsV : List Val → Bool → List Val → List Str → List Str → Int
  | [], _, ys, _, _ => cmpI 0 ys.length
  | x :: xs, doc, ys, ns, ms => match ys with
    | [] => 1
    | y :: ys => orI [if doc = true then Go.Lib.compareBytes (ns.headD []) (ms.headD []) else 0, cmpV x y, cmpsV xs doc ys ns.tail ms.tail]
end
mutual
theorem cmpV_refl : ∀ v, cmpV v v = 0
  | .mk k i t xs ns => by
    have h := cmpsV_refl xs (decide (k = 7)) ns
    rw [cmpV]
    simp only [Val.kind, Val.int, Val.text, Val.items, Val.names, orI_zero, h, cmpI_zero.2 rfl, cmpB_zero.2 rfl]
    simp [orI]
theorem cmpsV_refl : ∀ xs doc ns, cmpsV xs doc xs ns ns = 0
  | [], _, _ => by rw [cmpsV]; rfl
  | x :: xs, doc, ns => by
    have h1 := cmpV_refl x
    have h2 := cmpsV_refl xs doc ns.tail
    rw [cmpsV]
    simp only [orI_zero, h1, h2, cmpB_zero.2 rfl]
    simp [orI]
end
mutual
theorem cmpV_eq : ∀ (v w : Val), mayV v = true → mayV w = true → cmpV v w = 0 → v = w
  | .mk k i t xs ns, .mk k' i' t' ys ms, hv, hw, h => by
    rw [cmpV] at h
    simp only [Val.kind, Val.int, Val.text, Val.items, Val.names, orI_zero, cmpI_zero, cmpB_zero] at h
    obtain ⟨rfl, rfl, rfl, h4, _⟩ := h
    have hm1 : maysV xs = true := by rw [mayV] at hv; simp at hv; exact hv.1.1
    have hm2 : maysV ys = true := by rw [mayV] at hw; simp at hw; exact hw.1.1
    obtain ⟨rfl, h6⟩ := cmpsV_eq xs ys hm1 hm2 _ _ _ h4
    have hn : ns = ms := by
      by_cases hk : k = 7
      · subst hk
        exact h6 (by simp) (may7 hv) (may7 hw)
      · rw [mayV] at hv hw
        simp only [Bool.and_eq_true, kindOk] at hv hw
        have h1 := hv.2
        have h2 := hw.2
        have : ns.length = 0 ∧ ms.length = 0 := by
          constructor
          · grind
          · grind
        rw [List.eq_nil_of_length_eq_zero this.1, List.eq_nil_of_length_eq_zero this.2]
    rw [hn]
theorem cmpsV_eq : ∀ (xs ys : List Val), maysV xs = true → maysV ys = true → ∀ (doc : Bool) (ns ms : List Str), cmpsV xs doc ys ns ms = 0 → xs = ys ∧ (doc = true → ns.length = xs.length → ms.length = ys.length → ns = ms)
  | [], ys, _, _, doc, ns, ms, h => by
    rw [cmpsV, cmpI_zero] at h
    have : ys = [] := List.eq_nil_of_length_eq_zero (by omega)
    subst this
    exact ⟨rfl, fun _ h1 h2 => by rw [List.eq_nil_of_length_eq_zero h1, List.eq_nil_of_length_eq_zero h2]⟩
  | x :: xs, [], _, _, doc, ns, ms, h => by rw [cmpsV] at h; cases h
  | x :: xs, y :: ys, hx, hy, doc, ns, ms, h => by
    rw [cmpsV] at h
    simp only [orI_zero] at h
    obtain ⟨h1, h2, h3, _⟩ := h
    simp only [maysV, Bool.and_eq_true] at hx hy
    have e1 := cmpV_eq x y hx.1 hy.1 h2
    obtain ⟨e2, e3⟩ := cmpsV_eq xs ys hx.2 hy.2 doc ns.tail ms.tail h3
    refine ⟨by rw [e1, e2], fun hd l1 l2 => ?_⟩
    rw [if_pos hd, cmpB_zero] at h1
    cases ns with
    | nil => simp at l1
    | cons n ns =>
      cases ms with
      | nil => simp at l2
      | cons m ms =>
        simp only [List.headD_cons] at h1
        have e4 : ns = ms := e3 hd (by simpa using l1) (by simpa using l2)
        rw [h1, e4]
end
/-- The order of any two values. -/
def compV (v w : Val) : Int := if mayV v = true then (if mayV w = true then cmpV v w else 1) else if mayV w = true then -1 else 0
theorem orI_ne {a b c d : Int} (h : orI [a, b, c] ≠ 0) : orI [a, b, c, d] = orI [a, b, c] := by
  simp only [orI] at *
  split <;> (try split) <;> (try split) <;> simp_all
theorem orI_eq {a b c d : Int} (h : orI [a, b, c] = 0) : orI [a, b, c, d] = d := by
  simp only [orI_zero] at h
  obtain ⟨rfl, rfl, rfl, _⟩ := h
  simp [orI]
  exact fun h => h.symm
theorem cmps_step {xs ys : List Val} {ns ms : List Str} {doc : Bool} {i : Nat} (hx : i < xs.length) (hy : i < ys.length) :
    cmpsV (xs.drop i) doc (ys.drop i) (ns.drop i) (ms.drop i) = orI [if doc = true then Go.Lib.compareBytes (ns.getD i []) (ms.getD i []) else 0, cmpV (xs[i]'hx) (ys[i]'hy), cmpsV (xs.drop (i + 1)) doc (ys.drop (i + 1)) (ns.drop (i + 1)) (ms.drop (i + 1))] := by
  rw [List.drop_eq_getElem_cons hx, List.drop_eq_getElem_cons hy, cmpsV]
  simp only [List.headD_eq_head?_getD, List.head?_drop, List.getD_eq_getElem?_getD, List.tail_drop]
theorem cmps_end {xs ys : List Val} {ns ms : List Str} {doc : Bool} {i : Nat} (h : ¬ (i < xs.length ∧ i < ys.length)) (h1 : i ≤ xs.length) (h2 : i ≤ ys.length) :
    cmpsV (xs.drop i) doc (ys.drop i) (ns.drop i) (ms.drop i) = cmpI xs.length ys.length := by
  by_cases hx : i < xs.length
  · have hy : ys.length = i := by omega
    have e : ys.drop i = [] := List.drop_eq_nil_of_le (by omega)
    rw [List.drop_eq_getElem_cons hx, e, cmpsV]
    unfold cmpI
    rw [if_neg (by omega), if_pos (by omega)]
  · have e : xs.drop i = [] := List.drop_eq_nil_of_le (by omega)
    rw [e, cmpsV, List.length_drop]
    unfold cmpI
    split <;> split <;> (try split) <;> omega
theorem may7n {k i : Int} {t : Str} {xs : List Val} {ns : List Str} (h : mayV (.mk k i t xs ns) = true) (hk : k = 7) : ns.length = xs.length := by subst hk; exact may7 h

theorem fn111 : FnOk Tryz.prog 111 78 [4] (bodyOf Tryz.f111) := ⟨Tryz.f111, Tryz.func111, by kernel_rfl, by decide, by kernel_rfl, by kernel_rfl⟩
theorem s111A (m : Nat) : ∀ (v w : Val), SizeOf.sizeOf v < m → mayV v = true → mayV w = true → PSpec Tryz.prog 111 [.d (encV v), .d (encV w)] (.d (.int .i64 (cmpV v w))) := by
 induction m with
 | zero => intros; omega
 | succ m ih =>
  rintro ⟨kd, it, tx, xs, ns⟩ ⟨kd2, it2, tx2, ys, ms⟩ hv hmv hmw
  refine PSpec.bd fun hbd => ?_
  have hx : xs.length ≤ 9223372036854775807 := by simpa [encVs_length] using hbd.1.2.2.2.1.1
  have hy : ys.length ≤ 9223372036854775807 := by simpa [encVs_length] using hbd.2.1.2.2.2.1.1
  refine PSpec.of fn111 (by simp) fun o nk => ?_
  refine wr ?_
  refine u_step (g_box rfl fun o2 hb2 hk2 => ?_)
  refine u_step (g_box rfl fun o3 hb3 hk3 => ?_)
  have hb2_3 := (hk3 _ (by omega)).trans hb2
  refine ua ?_
  refine u_nil ?_
  refine WP.seq fun K4 hK4 => ?_
  refine wd ?_
  refine df th25 th3 hb2_3 ?_
  refine dl th3 hb2_3 ?_
  refine df th25 th3 hb3 ?_
  refine dl th3 hb3 ?_
  refine d_step (o_pcall (s127 _ _) rfl ⟨rfl, rfl, rfl⟩) ?_
  refine df th25 th3 hb2_3 ?_
  refine dl th3 hb2_3 ?_
  refine df th25 th3 hb3 ?_
  refine dl th3 hb3 ?_
  refine d_step (o_pcall (s127 _ _) rfl ⟨rfl, rfl, rfl⟩) ?_
  refine df th25 th9 hb2_3 ?_
  refine dl th9 hb2_3 ?_
  refine df th25 th9 hb3 ?_
  refine dl th9 hb3 ?_
  refine d_step (o_pcall (s128 _ _) rfl ⟨rfl, rfl, rfl⟩) ?_
  refine d_step (o_bs rfl th120 rfl th3 rfl rfl (by decide) rfl (by decide) (by decide) ⟨rfl, rfl, rfl⟩) ?_
  refine d_step (o_pcall (s126 [cmpI kd kd2, cmpI it it2, Go.Lib.compareBytes tx tx2]) rfl ⟨rfl, rfl, rfl⟩) ?_
  refine da ?_
  refine d_nil ?_
  refine wr ?_
  refine um ?_
  refine ub ?_
  refine u_nil ?_
  refine wc (fun hc7 => ?_) (fun hc7 => ?_) <;> try simp only [Q0, Q1, Q2, Q3, Q4, Q5, Q6, Q7, Q8, ge_iff_le, gt_iff_lt] at hc7
  ·
   refine wr ?_
   refine um ?_
   refine ua ?_
   refine u_nil ?_
   refine WP.ret ?_
   refine ret_ok rfl ?_ (by omega) (fun t ht => (hk3 t (by omega)).trans ((hk2 t (by omega))))
   -- ret 1
   clear hK4
   refine congrArg (D.int .i64) ?_
   rw [cmpV]
   exact (orI_ne (by simpa using hc7)).symm
  ·
   have hq0 : orI [cmpI kd kd2, cmpI it it2, Go.Lib.compareBytes tx tx2] = 0 := by simpa using hc7
   have hq := hq0
   simp only [orI_zero, cmpI_zero, cmpB_zero] at hq
   obtain ⟨rfl, rfl, rfl, _⟩ := hq
   have hcm : cmpV (.mk kd it tx xs ns) (.mk kd it tx ys ms) = cmpsV xs (decide (kd = 7)) ys ns ms := by rw [cmpV]; exact orI_eq hq0
   refine WP.skip ?_
   refine hK4 _ ?_
   refine WP.seq fun K9 hK9 => ?_
   refine wr ?_
   refine uf th25 th22 hb2_3 ?_
   refine ul th22 hb2_3 ?_
   refine un th22 ?_
   refine uf th25 th22 hb3 ?_
   refine ul th22 hb3 ?_
   refine un th22 ?_
   refine u_step (o_mm (by decide) rfl ?_)
   refine um ?_
   refine u_nil ?_
   refine WP.block ?_
   refine WP.loopL (ι := Nat) (fun i => ⟨al [(2, .loc nk 0), (3, .loc (nk + 1) 0), (35, .d (.int .i64 (if ((encVs ys).length : Int) < ((encVs xs).length : Int) then ((encVs ys).length : Int) else ((encVs xs).length : Int)))), (36, .d (.int .i64 i))], o3, ((nk + 1) + 1)⟩) (fun i => i ≤ xs.length ∧ i ≤ ys.length ∧ cmpV (.mk kd it tx xs ns) (.mk kd it tx ys ms) = cmpsV (xs.drop i) (decide (kd = 7)) (ys.drop i) (ns.drop i) (ms.drop i)) (fun i => xs.length - i) (fun i hA => ?_) 0 ?_ ?_
   ·
    obtain ⟨hi1, hi2, hin⟩ := hA
    refine wr ?_
    refine ub ?_
    refine u_nil ?_
    refine WP.seq fun K12 hK12 => ?_
    refine wc (fun hc13 => ?_) (fun hc13 => ?_) <;> try simp only [Q0, Q1, Q2, Q3, Q4, Q5, Q6, Q7, Q8, ge_iff_le, gt_iff_lt] at hc13
    ·
     have hlt : i < xs.length ∧ i < ys.length := by have := hc13; (try simp only [encVs_length] at this); constructor <;> (split at this <;> omega)
     have hst := cmps_step (xs := xs) (ys := ys) (ns := ns) (ms := ms) (doc := decide (kd = 7)) hlt.1 hlt.2
     refine WP.skip ?_
     refine hK12 _ ?_
     refine WP.seq fun K14 hK14 => ?_
     refine WP.block ?_
     refine wr ?_
     refine um ?_
     refine ua ?_
     refine u_nil ?_
     refine WP.seq fun K16 hK16 => ?_
     refine wr ?_
     refine uf th25 th3 hb2_3 ?_
     refine ul th3 hb2_3 ?_
     refine ub ?_
     refine u_nil ?_
     refine wc (fun hc18 => ?_) (fun hc18 => ?_) <;> try simp only [Q0, Q1, Q2, Q3, Q4, Q5, Q6, Q7, Q8, ge_iff_le, gt_iff_lt] at hc18
     ·
      have hk7 : kd = 7 := by simpa using hc18
      have hln : ns.length = xs.length := may7n hmv hk7
      have hlm : ms.length = ys.length := may7n hmw hk7
      have hdc : decide (kd = 7) = true := by simp [hk7]
      have e1 : ns.getD i [] = ns[i] := by simp [show i < ns.length by omega]
      have e2 : ms.getD i [] = ms[i] := by simp [show i < ms.length by omega]
      refine wd ?_
      refine df th25 th23 hb2_3 ?_
      refine dl th23 hb2_3 ?_
      refine dm ?_
      first | refine d_step (o_ia_map rfl rfl th23 rfl th9 rfl (by omega) ⟨rfl, rfl, rfl⟩) ?_ | refine d_step (o_ia_vs rfl rfl th23 rfl th9 rfl (by omega) ⟨rfl, rfl, rfl⟩) ?_
      refine dL th9 ?_
      refine df th25 th23 hb3 ?_
      refine dl th23 hb3 ?_
      refine dm ?_
      first | refine d_step (o_ia_map rfl rfl th23 rfl th9 rfl (by omega) ⟨rfl, rfl, rfl⟩) ?_ | refine d_step (o_ia_vs rfl rfl th23 rfl th9 rfl (by omega) ⟨rfl, rfl, rfl⟩) ?_
      refine dL th9 ?_
      refine d_step (o_pcall (s128 _ _) rfl ⟨rfl, rfl, rfl⟩) ?_
      refine da ?_
      refine d_nil ?_
      refine wr ?_
      refine um ?_
      refine ub ?_
      refine u_nil ?_
      refine wc (fun hc21 => ?_) (fun hc21 => ?_) <;> try simp only [Q0, Q1, Q2, Q3, Q4, Q5, Q6, Q7, Q8, ge_iff_le, gt_iff_lt] at hc21
      ·
       refine wr ?_
       refine um ?_
       refine ua ?_
       refine u_nil ?_
       refine WP.ret ?_
       refine ret_ok rfl ?_ (by omega) (fun t ht => (hk3 t (by omega)).trans ((hk2 t (by omega))))
       -- ret 2
       clear hK4 hK9 hK12 hK14 hK16
       refine congrArg (D.int .i64) ?_
       rw [hin, hst, if_pos hdc, e1, e2]
       have hl := hc21
       simp only [orI]
       rw [if_neg (by simpa using hl)]
      ·
       have hX : (if decide (kd = 7) = true then Go.Lib.compareBytes (ns.getD i []) (ms.getD i []) else 0) = 0 := by rw [if_pos hdc, e1, e2]; simpa using hc21
       refine WP.skip ?_
       refine hK16 _ ?_
       refine wd ?_
       refine df th25 th22 hb2_3 ?_
       refine dl th22 hb2_3 ?_
       refine dm ?_
       first | refine d_step (o_ia_map rfl rfl th22 rfl th25 rfl (by omega) ⟨rfl, rfl, rfl⟩) ?_ | refine d_step (o_ia_vs rfl rfl th22 rfl th25 rfl (by omega) ⟨rfl, rfl, rfl⟩) ?_
       refine dL th25 ?_
       refine df th25 th22 hb3 ?_
       refine dl th22 hb3 ?_
       refine dm ?_
       first | refine d_step (o_ia_map rfl rfl th22 rfl th25 rfl (by omega) ⟨rfl, rfl, rfl⟩) ?_ | refine d_step (o_ia_vs rfl rfl th22 rfl th25 rfl (by omega) ⟨rfl, rfl, rfl⟩) ?_
       refine dL th25 ?_
       refine d_step (o_pcall (ih _ _ (by exact items_lt' (by omega) hv) (by exact may_items hmv (by omega)) (by exact may_items hmw (by omega))) rfl ⟨rfl, rfl, rfl⟩) ?_
       refine da ?_
       refine d_nil ?_
       refine wr ?_
       refine um ?_
       refine ub ?_
       refine u_nil ?_
       refine wc (fun hc25 => ?_) (fun hc25 => ?_) <;> try simp only [Q0, Q1, Q2, Q3, Q4, Q5, Q6, Q7, Q8, ge_iff_le, gt_iff_lt] at hc25
       ·
        refine wr ?_
        refine um ?_
        refine ua ?_
        refine u_nil ?_
        refine WP.ret ?_
        refine ret_ok rfl ?_ (by omega) (fun t ht => (hk3 t (by omega)).trans ((hk2 t (by omega))))
        -- ret 3
        clear hK4 hK9 hK12 hK14 hK16
        refine congrArg (D.int .i64) ?_
        have hl := hc25
        rw [hin, hst, hX]
        simp only [orI, if_true]
        rw [if_neg (by simpa using hl)]
       ·
        refine WP.skip ?_
        refine hK14 _ ?_
        refine WP.reg tabOk rfl ?_
        refine ub ?_
        refine um ?_
        refine u_nil ?_
        -- back
        have hl := hc25
        refine ⟨i + 1, ⟨by omega, by omega, ?_⟩, by omega, ?_⟩
        · rw [hin, hst, hX, show cmpV xs[i] ys[i] = 0 from by simpa using hl]
          simp only [orI, if_true]
          split
          · rename_i h0; exact h0.symm
          · rfl
        · refine Le.al ?_
          simp only [List.forall_mem_cons]
          exact ⟨rfl, rfl, rfl, cnt (by omega), by simp⟩
     ·
      have hdc : decide (kd = 7) = false := by simpa using hc18
      have hX : (if decide (kd = 7) = true then Go.Lib.compareBytes (ns.getD i []) (ms.getD i []) else 0) = 0 := by rw [hdc]; rfl
      refine WP.skip ?_
      refine hK16 _ ?_
      refine wd ?_
      refine df th25 th22 hb2_3 ?_
      refine dl th22 hb2_3 ?_
      refine dm ?_
      first | refine d_step (o_ia_map rfl rfl th22 rfl th25 rfl (by omega) ⟨rfl, rfl, rfl⟩) ?_ | refine d_step (o_ia_vs rfl rfl th22 rfl th25 rfl (by omega) ⟨rfl, rfl, rfl⟩) ?_
      refine dL th25 ?_
      refine df th25 th22 hb3 ?_
      refine dl th22 hb3 ?_
      refine dm ?_
      first | refine d_step (o_ia_map rfl rfl th22 rfl th25 rfl (by omega) ⟨rfl, rfl, rfl⟩) ?_ | refine d_step (o_ia_vs rfl rfl th22 rfl th25 rfl (by omega) ⟨rfl, rfl, rfl⟩) ?_
      refine dL th25 ?_
      refine d_step (o_pcall (ih _ _ (by exact items_lt' (by omega) hv) (by exact may_items hmv (by omega)) (by exact may_items hmw (by omega))) rfl ⟨rfl, rfl, rfl⟩) ?_
      refine da ?_
      refine d_nil ?_
      refine wr ?_
      refine um ?_
      refine ub ?_
      refine u_nil ?_
      refine wc (fun hc29 => ?_) (fun hc29 => ?_) <;> try simp only [Q0, Q1, Q2, Q3, Q4, Q5, Q6, Q7, Q8, ge_iff_le, gt_iff_lt] at hc29
      ·
       refine wr ?_
       refine um ?_
       refine ua ?_
       refine u_nil ?_
       refine WP.ret ?_
       refine ret_ok rfl ?_ (by omega) (fun t ht => (hk3 t (by omega)).trans ((hk2 t (by omega))))
       -- ret 4
       clear hK4 hK9 hK12 hK14 hK16
       refine congrArg (D.int .i64) ?_
       have hl := hc29
       rw [hin, hst, hX]
       simp only [orI, if_true]
       rw [if_neg (by simpa using hl)]
      ·
       refine WP.skip ?_
       refine hK14 _ ?_
       refine WP.reg tabOk rfl ?_
       refine ub ?_
       refine um ?_
       refine u_nil ?_
       -- back
       have hl := hc29
       refine ⟨i + 1, ⟨by omega, by omega, ?_⟩, by omega, ?_⟩
       · rw [hin, hst, hX, show cmpV xs[i] ys[i] = 0 from by simpa using hl]
         simp only [orI, if_true]
         split
         · rename_i h0; exact h0.symm
         · rfl
       · refine Le.al ?_
         simp only [List.forall_mem_cons]
         exact ⟨rfl, rfl, rfl, cnt (by omega), by simp⟩
    ·
     have hend := cmps_end (xs := xs) (ys := ys) (ns := ns) (ms := ms) (doc := decide (kd = 7)) (i := i) (by have := hc13; (try simp only [encVs_length] at this); rintro ⟨h1, h2⟩; split at this <;> omega) (by omega) (by omega)
     refine WP.exit ?_
     refine hK9 _ ?_
     refine wr ?_
     refine uf th25 th22 hb2_3 ?_
     refine ul th22 hb2_3 ?_
     refine un th22 ?_
     refine uf th25 th22 hb3 ?_
     refine ul th22 hb3 ?_
     refine un th22 ?_
     refine u_step (o_pcall (s127 _ _) rfl ?_)
     refine ua ?_
     refine u_nil ?_
     refine WP.ret ?_
     refine ret_ok rfl ?_ (by omega) (fun t ht => (hk3 t (by omega)).trans ((hk2 t (by omega))))
     -- ret 5
     clear hK4 hK9 hK12
     refine congrArg (D.int .i64) ?_
     rw [hin, hend]
     simp only [encVs_length]
   ·
    exact ⟨by omega, by omega, by simpa using hcm⟩
   ·
    refine Le.al ?_
    simp only [List.forall_mem_cons]
    exact ⟨rfl, rfl, rfl, rfl, by simp⟩
theorem s111 (v w : Val) (hmv : mayV v = true) (hmw : mayV w = true) : PSpec Tryz.prog 111 [.d (encV v), .d (encV w)] (.d (.int .i64 (cmpV v w))) := s111A _ v w (Nat.lt_succ_self _) hmv hmw

theorem fn87 : FnOk Tryz.prog 87 23 [4] (bodyOf Tryz.f87) := ⟨Tryz.f87, Tryz.func87, by kernel_rfl, by decide, by kernel_rfl, by kernel_rfl⟩
theorem s87 (v w : Val) : PSpec Tryz.prog 87 [.d (encV v), .d (encV w)] (.d (.int .i64 (compV v w))) := by
 obtain ⟨kd, it, tx, xs, ns⟩ := v
 obtain ⟨kd2, it2, tx2, ys, ms⟩ := w
 refine PSpec.of fn87 (by simp) fun o nk => ?_
 refine wr ?_
 refine u_step (g_box rfl fun o2 hb2 hk2 => ?_)
 refine u_step (g_box rfl fun o3 hb3 hk3 => ?_)
 have hb2_3 := (hk3 _ (by omega)).trans hb2
 refine ua ?_
 refine u_nil ?_
 refine WP.seq fun K4 hK4 => ?_
 refine wd ?_
 refine dg th25 hb2_3 ?_
 refine d_step (o_pcall (s55 (.mk kd it tx xs ns)) rfl ⟨rfl, rfl, rfl⟩) ?_
 refine dg th25 hb3 ?_
 refine d_step (o_pcall (s55 (.mk kd2 it2 tx2 ys ms)) rfl ⟨rfl, rfl, rfl⟩) ?_
 refine da ?_
 refine da ?_
 refine d_nil ?_
 refine WP.block ?_
 refine wr ?_
 refine um ?_
 refine um ?_
 apply gT
 · rfl
 · intro hg
   exact pm
 refine uA ?_
 refine ua ?_
 refine u_nil ?_
 refine wc (fun hc7 => ?_) (fun hc7 => ?_) <;> try simp only [Q0, Q1, Q2, Q3, Q4, Q5, Q6, Q7, Q8, ge_iff_le, gt_iff_lt] at hc7
 ·
  refine wr ?_
  refine ug th25 hb2_3 ?_
  refine ug th25 hb3 ?_
  refine u_step (o_pcall (s111 (.mk kd it tx xs ns) (.mk kd2 it2 tx2 ys ms) (by have := hc7; simp at this; exact this.1) (by have := hc7; simp at this; exact this.2)) rfl ?_)
  refine ua ?_
  refine u_nil ?_
  refine WP.ret ?_
  refine ret_ok rfl ?_ (by omega) (fun t ht => (hk3 t (by omega)).trans ((hk2 t (by omega))))
  -- ret 1
  clear hK4
  refine congrArg (D.int .i64) ?_
  simp only [compV]
  grind
 ·
  refine wr ?_
  refine um ?_
  refine ua ?_
  refine u_nil ?_
  refine wc (fun hc10 => ?_) (fun hc10 => ?_) <;> try simp only [Q0, Q1, Q2, Q3, Q4, Q5, Q6, Q7, Q8, ge_iff_le, gt_iff_lt] at hc10
  ·
   refine wr ?_
   refine ua ?_
   refine u_nil ?_
   refine WP.ret ?_
   refine ret_ok rfl ?_ (by omega) (fun t ht => (hk3 t (by omega)).trans ((hk2 t (by omega))))
   -- ret 2
   clear hK4
   refine congrArg (D.int .i64) ?_
   simp only [compV]
   grind
  ·
   refine wr ?_
   refine um ?_
   refine ua ?_
   refine u_nil ?_
   refine wc (fun hc13 => ?_) (fun hc13 => ?_) <;> try simp only [Q0, Q1, Q2, Q3, Q4, Q5, Q6, Q7, Q8, ge_iff_le, gt_iff_lt] at hc13
   ·
    refine wr ?_
    refine ua ?_
    refine u_nil ?_
    refine WP.ret ?_
    refine ret_ok rfl ?_ (by omega) (fun t ht => (hk3 t (by omega)).trans ((hk2 t (by omega))))
    -- ret 3
    clear hK4
    refine congrArg (D.int .i64) ?_
    simp only [compV]
    grind
   ·
    refine WP.skip ?_
    refine hK4 _ ?_
    refine wr ?_
    refine ua ?_
    refine u_nil ?_
    refine WP.ret ?_
    refine ret_ok rfl ?_ (by omega) (fun t ht => (hk3 t (by omega)).trans ((hk2 t (by omega))))
    -- ret 4
    clear hK4
    refine congrArg (D.int .i64) ?_
    simp only [compV]
    grind

theorem fn56 : FnOk Tryz.prog 56 9 [4] (bodyOf Tryz.f56) := ⟨Tryz.f56, Tryz.func56, by kernel_rfl, by decide, by kernel_rfl, by kernel_rfl⟩
theorem s56 (v w : Val) : PSpec Tryz.prog 56 [.d (encV v), .d (encV w)] (.d (.bool (decide (compV v w = 0)))) := by
 obtain ⟨kd, it, tx, xs, ns⟩ := v
 obtain ⟨kd2, it2, tx2, ys, ms⟩ := w
 refine PSpec.of fn56 (by simp) fun o nk => ?_
 refine wr ?_
 refine u_step (g_box rfl fun o2 hb2 hk2 => ?_)
 refine u_step (g_box rfl fun o3 hb3 hk3 => ?_)
 have hb2_3 := (hk3 _ (by omega)).trans hb2
 refine ua ?_
 refine u_nil ?_
 refine wr ?_
 refine ug th25 hb2_3 ?_
 refine ug th25 hb3 ?_
 refine u_step (o_pcall (s87 (.mk kd it tx xs ns) (.mk kd2 it2 tx2 ys ms)) rfl ?_)
 refine ub ?_
 refine ua ?_
 refine u_nil ?_
 refine WP.ret ?_
 refine ret_ok rfl ?_ (by omega) (fun t ht => (hk3 t (by omega)).trans ((hk2 t (by omega))))
 -- ret 1
 refine congrArg D.bool ?_
 rw [Bool.eq_iff_iff]
 simp

end Go.Proofs.YtfgampmhjfffdaaGreat.Abs

set_option linter.unusedVariables false
set_option linter.unusedSimpArgs false
set_option maxRecDepth 10000
namespace Go.Proofs.YtfgampmhjfffdaaGreat.Abs
open Go
end Go.Proofs.YtfgampmhjfffdaaGreat.Abs

set_option linter.unusedVariables false
set_option linter.unusedSimpArgs false
set_option maxRecDepth 10000
namespace Go.Proofs.YtfgampmhjfffdaaGreat.Abs
open Go
/-- The place of a step's item; -1: there is none. -/
def placeV (v : Val) (s : Str) : Int :=
  if v.kind = 7 then idxS v.names s else if v.kind = 6 then (if stepI s < v.items.length then stepI s else -1) else -1
/-- What lies at a path. -/
def getV : Val → List Str → Option Val
  | v, [] => some v
  | v, s :: p => if 0 ≤ placeV v s then (match v.items[(placeV v s).toNat]? with
    | some x => getV x p
    | none => none) else none
theorem place7 {k i : Int} {t : Str} {xs : List Val} {ns : List Str} {s : Str} (h : k = 7) : placeV (.mk k i t xs ns) s = idxS ns s := by
  show (if k = 7 then _ else _) = _
  rw [if_pos h]; rfl
def zeroV : Val := .mk 0 0 [] [] []
/-- A value that was looked for. -/
def optL (o : Option Val) : List D := [encV (o.getD zeroV), .bool o.isSome]
def optL0 (o : Option Val) : List D := [match o with
  | some v => encV v
  | none => .agg [.int .i64 0, .int .i64 0, .str [], .nil, .nil], .bool o.isSome]
theorem opt_le (o : Option Val) : D.les (optL0 o) (optL o) := by
  cases o with
  | none => simp [optL0, optL, D.les, D.le, zeroV, encV, encVs]
  | some v => exact D.les_refl _
theorem item_ex {xs : List Val} {j : Nat} (h : j < xs.length) : ∃ x, xs[j]? = some x := ⟨_, List.getElem?_eq_getElem h⟩
theorem pv2 {P : Program} {f : FuncId} {v : Val} {c : SV} {r : SV} (h : PSpec P f [.d (encV v), c] r) : PSpec P f [.d (.agg (valCells v)), c] r := encV_eq v ▸ h
theorem get_step {v : Val} {s : Str} {p : List Str} {x : Val} (h : 0 ≤ placeV v s) (hx : v.items[(placeV v s).toNat]? = some x) : getV v (s :: p) = getV x p := by
  rw [getV, if_pos h, hx]
theorem get_no {v : Val} {s : Str} {p : List Str} (h : placeV v s < 0) : getV v (s :: p) = none := by
  rw [getV, if_neg (by omega)]
theorem items_at {v : Val} {j : Nat} {x : Val} (h : v.items[j]? = some x) : (encVs v.items)[j]? = some (encV x) := by
  rw [encVs_map, List.getElem?_map, h]; rfl
theorem idx_lt (ns : List Str) (s : Str) : idxS ns s < ns.length := by
  unfold idxS firstI
  split
  · rename_i h
    have := List.findIdx_lt_length_of_exists (xs := ns) (p := fun x => decide (s = x)) (by simpa using h)
    omega
  · omega
theorem stepI_ge (s : Str) : -1 ≤ stepI s := by unfold stepI; split <;> (try split) <;> omega
theorem may_item {v : Val} (h : mayV v = true) {x : Val} (hx : x ∈ v.items) : mayV x = true := by
  obtain ⟨k, i, t, xs, ns⟩ := v
  obtain ⟨j, hj, rfl⟩ := List.mem_iff_getElem.1 hx
  exact may_items h hj
theorem place_lt {v : Val} (h : mayV v = true) (s : Str) : placeV v s < v.items.length := by
  unfold placeV
  split
  · rename_i hk
    obtain ⟨k, i, t, xs, ns⟩ := v
    simp only [Val.kind] at hk
    subst hk
    have := idx_lt ns s
    have := may7 h
    simp only [Val.names, Val.items]
    omega
  · split
    · split <;> omega
    · omega
/-- A part of a struct of the program's: what an entry is. -/
structure Etr where
  term : Int
  kind : Int
  coll : Str
  to : Str
  id : Val
  doc : Val
  deltas : List Dlt
  session : Int
  number : Int
def encE (e : Etr) : D := .agg ([.int .i64 e.term, .int .i64 e.kind, .str e.coll, .str e.to] ++ valCells e.id ++ valCells e.doc ++ [.sl 8 (e.deltas.map encD), .int .i64 e.session, .int .i64 e.number])
structure Flt where
  coll : Str
  path : List Str
  kinds : Int
theorem fn65 : FnOk Tryz.prog 65 36 [4] (bodyOf Tryz.f65) := ⟨Tryz.f65, Tryz.func65, by kernel_rfl, by decide, by kernel_rfl, by kernel_rfl⟩
theorem s65 (v : Val) (s : Str) : PSpec Tryz.prog 65 [.d (encV v), .d (.str s)] (.d (.int .i64 (placeV v s))) := by
 refine PSpec.bd fun hbd => ?_
 obtain ⟨kd, it, tx, xs, ns⟩ := v
 have hx : ns.length ≤ 9223372036854775807 := by simpa using hbd.1.2.2.2.2.1.1
 refine PSpec.of fn65 (by simp) fun o nk => ?_
 refine wr ?_
 refine u_step (g_box rfl fun o2 hb2 hk2 => ?_)
 refine ua ?_
 refine u_nil ?_
 refine WP.seq fun K3 hK3 => ?_
 refine wr ?_
 refine uf th25 th3 hb2 ?_
 refine ul th3 hb2 ?_
 refine ub ?_
 refine u_nil ?_
 refine wc (fun hc5 => ?_) (fun hc5 => ?_) <;> try simp only [Q0, Q1, Q2, Q3, Q4, Q5, Q6, Q7, Q8, ge_iff_le, gt_iff_lt] at hc5
 ·
  refine WP.seq fun K6 hK6 => ?_
  refine wr ?_
  refine um ?_
  refine u_step (o_pcall (s92 s) rfl ?_)
  refine ua ?_
  refine u_nil ?_
  refine wr ?_
  refine um ?_
  refine uf th25 th22 hb2 ?_
  refine ul th22 hb2 ?_
  refine un th22 ?_
  refine ub ?_
  refine u_nil ?_
  refine wc (fun hc9 => ?_) (fun hc9 => ?_) <;> try simp only [Q0, Q1, Q2, Q3, Q4, Q5, Q6, Q7, Q8, ge_iff_le, gt_iff_lt] at hc9
  ·
   refine wr ?_
   refine um ?_
   refine ua ?_
   refine u_nil ?_
   refine WP.ret ?_
   refine ret_ok rfl ?_ (by omega) (fun t ht => (hk2 t (by omega)))
   -- ret 1
   clear hK3 hK6
   refine congrArg (D.int .i64) ?_
   have e1 := encVs_length xs
   have e2 := stepI_ge s
   simp only [beq_iff_eq, beq_eq_false_iff_ne, ne_eq, decide_eq_true_eq, decide_eq_false_iff_not] at hc5 hc9
   simp only [placeV, Val.kind, Val.items, Val.names]
   grind
  ·
   refine WP.skip ?_
   refine hK6 _ ?_
   refine wr ?_
   refine ua ?_
   refine u_nil ?_
   refine WP.ret ?_
   refine ret_ok rfl ?_ (by omega) (fun t ht => (hk2 t (by omega)))
   -- ret 2
   clear hK3 hK6
   refine congrArg (D.int .i64) ?_
   have e1 := encVs_length xs
   have e2 := stepI_ge s
   simp only [beq_iff_eq, beq_eq_false_iff_ne, ne_eq, decide_eq_true_eq, decide_eq_false_iff_not] at hc5 hc9
   simp only [placeV, Val.kind, Val.items, Val.names]
   grind
 ·
  refine WP.skip ?_
  refine hK3 _ ?_
  refine WP.seq fun K12 hK12 => ?_
  refine wr ?_
  refine uf th25 th3 hb2 ?_
  refine ul th3 hb2 ?_
  refine ub ?_
  refine u_nil ?_
  refine wc (fun hc14 => ?_) (fun hc14 => ?_) <;> try simp only [Q0, Q1, Q2, Q3, Q4, Q5, Q6, Q7, Q8, ge_iff_le, gt_iff_lt] at hc14
  ·
   have hk : kd = 7 := by simpa using hc14
   refine wr ?_
   refine ua ?_
   refine u_nil ?_
   refine WP.block ?_
   refine WP.loopL (ι := Nat) (fun i => ⟨al [(1, .d (.str s)), (2, .loc nk 0), (6, .d (.int .i64 i))], o2, (nk + 1)⟩) (fun i => i ≤ ns.length ∧ ∀ (j : Nat) (hj : j < ns.length), j < i → decide (s = ns[j]) = false) (fun i => ns.length - i) (fun i hA => ?_) 0 ?_ ?_
   ·
    obtain ⟨hle_i, hin_i⟩ := hA
    refine WP.seq fun K16 hK16 => ?_
    refine wr ?_
    refine um ?_
    refine uf th25 th23 hb2 ?_
    refine ul th23 hb2 ?_
    refine un th23 ?_
    refine ub ?_
    refine u_nil ?_
    refine wc (fun hc18 => ?_) (fun hc18 => ?_) <;> try simp only [Q0, Q1, Q2, Q3, Q4, Q5, Q6, Q7, Q8, ge_iff_le, gt_iff_lt] at hc18
    ·
     refine WP.skip ?_
     refine hK16 _ ?_
     refine WP.seq fun K19 hK19 => ?_
     refine WP.block ?_
     refine wr ?_
     refine uf th25 th23 hb2 ?_
     refine ul th23 hb2 ?_
     refine um ?_
     first | refine u_step (o_ia_map rfl rfl th23 rfl th9 rfl (by omega) ?_) | refine u_step (o_ia_vs rfl rfl th23 rfl th9 rfl (by omega) ?_)
     refine uL th9 ?_
     refine um ?_
     refine us ?_
     refine u_nil ?_
     refine wc (fun hc21 => ?_) (fun hc21 => ?_) <;> try simp only [Q0, Q1, Q2, Q3, Q4, Q5, Q6, Q7, Q8, ge_iff_le, gt_iff_lt] at hc21
     ·
      refine wr ?_
      refine um ?_
      refine ua ?_
      refine u_nil ?_
      refine WP.ret ?_
      refine ret_ok rfl ?_ (by omega) (fun t ht => (hk2 t (by omega)))
      -- ret 3
      clear hK3 hK12 hK16 hK19
      have hl : ns[i] = s := by simpa using hc21
      refine congrArg (D.int .i64) ?_
      rw [place7 hk, idxS, firstI_at (p := fun x => decide (s = x)) (xs := ns) (i := i) (by omega) (decide_eq_true hl.symm) hin_i]
     ·
      refine WP.skip ?_
      refine hK19 _ ?_
      refine WP.reg tabOk rfl ?_
      refine um ?_
      refine ub ?_
      refine ua ?_
      refine u_nil ?_
      -- back
      refine ⟨i + 1, ⟨by omega, ?_⟩, by omega, ?_⟩
      · intro j hj h1
        by_cases h2 : j = i
        · subst h2; have hl := hc21; simp only [decide_eq_false_iff_not] at hl ⊢; exact fun e => hl e.symm
        · exact hin_i j hj (by omega)
      · refine Le.al ?_
        simp only [List.forall_mem_cons]
        exact ⟨rfl, rfl, cnt (by omega), by simp⟩
    ·
     refine WP.exit ?_
     refine hK12 _ ?_
     refine wr ?_
     refine ua ?_
     refine u_nil ?_
     refine WP.ret ?_
     refine ret_ok rfl ?_ (by omega) (fun t ht => (hk2 t (by omega)))
     -- ret 4
     clear hK3 hK12 hK16
     refine congrArg (D.int .i64) ?_
     rw [place7 hk, idxS, firstI_none (p := fun x => decide (s = x)) (xs := ns) fun j hj => hin_i j hj (by omega)]
   ·
    simp
   ·
    refine Le.al ?_
    simp only [List.forall_mem_cons]
    exact ⟨rfl, rfl, rfl, by simp⟩
  ·
   refine WP.skip ?_
   refine hK12 _ ?_
   refine wr ?_
   refine ua ?_
   refine u_nil ?_
   refine WP.ret ?_
   refine ret_ok rfl ?_ (by omega) (fun t ht => (hk2 t (by omega)))
   -- ret 5
   clear hK3 hK12
   refine congrArg (D.int .i64) ?_
   have e1 := encVs_length xs
   have e2 := stepI_ge s
   simp only [beq_iff_eq, beq_eq_false_iff_ne, ne_eq, decide_eq_true_eq, decide_eq_false_iff_not] at hc5 hc14
   simp only [placeV, Val.kind, Val.items, Val.names]
   grind

theorem fn33 : FnOkC Tryz.prog 33 29 [.cell 4 25, .tmp 5] (bodyOf Tryz.f33) := ⟨Tryz.f33, Tryz.func33, by kernel_rfl, by decide, by kernel_rfl, by kernel_rfl⟩
theorem s33a (v : Val) (p : List Str) (hm : mayV v = true) : PSpec Tryz.prog 33 [.d (encV v), .d (.sl 1 (p.map .str))] (.tup ((optL0 (getV v p)).map .d)) := by
 refine PSpec.bd fun hbd => ?_
 obtain ⟨kd, it, tx, xs, ns⟩ := v
 have hx : p.length ≤ 9223372036854775807 := by simpa using hbd.2.1.1
 refine PSpec.of2C tabOk fn33 (by simp) fun o nk => ?_
 refine wr ?_
 refine u_step (g_box rfl fun o2 hb2 hk2 => ?_)
 refine u_step (g_alloc th25 rfl fun o3 hb3 hk3 => ?_)
 have hb2_3 := (hk3 _ (by omega)).trans hb2
 refine ua ?_
 refine u_nil ?_
 refine WP.seq fun K4 hK4 => ?_
 refine wr ?_
 refine ua ?_
 refine u_nil ?_
 refine WP.block ?_
 refine WP.loopL (ι := Nat × Val × (Nat → Option AO)) (fun ⟨i, u, o2⟩ => ⟨al [(1, .d (.sl 1 (p.map .str))), (2, .loc nk 0), (4, .loc (nk + 1) 0), (6, .d (.int .i64 i))], o2, ((nk + 1) + 1)⟩) (fun ⟨i, u, o2⟩ => i ≤ p.length ∧ o2 nk = some (.box ((valCells u).map .d)) ∧ o2 (nk + 1) = some (.box [.d (.int .i64 0), .d (.int .i64 0), .d (.str []), .d .nil, .d .nil]) ∧ (∀ t, t < nk → o2 t = o t) ∧ mayV u = true ∧ getV (.mk kd it tx xs ns) p = getV u (p.drop i)) (fun ⟨i, u, o2⟩ => p.length - i) (fun ⟨i, u, o2⟩ hA => ?_) ⟨0, (.mk kd it tx xs ns), o3⟩ ?_ ?_
 ·
  obtain ⟨hle, hob, hzb, hfr, hmu, hgt⟩ := hA
  refine WP.seq fun K6 hK6 => ?_
  refine wr ?_
  refine um ?_
  refine um ?_
  refine un th23 ?_
  refine ub ?_
  refine u_nil ?_
  refine wc (fun hc8 => ?_) (fun hc8 => ?_) <;> try simp only [Q0, Q1, Q2, Q3, Q4, Q5, Q6, Q7, Q8, ge_iff_le, gt_iff_lt] at hc8
  ·
   refine WP.skip ?_
   refine hK6 _ ?_
   refine WP.seq fun K9 hK9 => ?_
   refine WP.block ?_
   refine wd ?_
   refine dg th25 hob ?_
   refine dm ?_
   refine dm ?_
   first | refine d_step (o_ia_map rfl rfl th23 rfl th9 rfl (by omega) ⟨rfl, rfl, rfl⟩) ?_ | refine d_step (o_ia_vs rfl rfl th23 rfl th9 rfl (by omega) ⟨rfl, rfl, rfl⟩) ?_
   refine dL th9 ?_
   refine d_step (o_pcall (pv2 (v := u) (s65 u p[i])) rfl ⟨rfl, rfl, rfl⟩) ?_
   refine da ?_
   refine d_nil ?_
   refine WP.seq fun K11 hK11 => ?_
   refine wr ?_
   refine um ?_
   refine ub ?_
   refine u_nil ?_
   refine wc (fun hc13 => ?_) (fun hc13 => ?_) <;> try simp only [Q0, Q1, Q2, Q3, Q4, Q5, Q6, Q7, Q8, ge_iff_le, gt_iff_lt] at hc13
   ·
    refine wr ?_
    refine u_step (o_bu rfl th25 rfl rfl ?_)
    refine u_step0 (g_sta rfl rfl th25 rfl hzb (by first | (simp; done) | (simp [D.leaves, D.width, valCells]; done) | decide) fun o15 hb15 hk15 => ?_)
    have hob_15 := (hk15 _ (by omega)).trans hob
    refine ua ?_
    refine u_nil ?_
    refine WP.ret ?_
    refine retC_ok (resis_agg rfl th25 rfl hb15 rfl rfl rfl) rfl ?_ ?_ (by omega) (fun t ht => (hk15 t (by omega)).trans ((hfr t (by omega))))
    · rw [hgt, List.drop_eq_getElem_cons (by omega), get_no (by omega)]
    · rw [hgt, List.drop_eq_getElem_cons (by omega), get_no (by omega)]; rfl
   ·
    have hp0 : 0 ≤ placeV u p[i] := by omega
    have hlt := place_lt hmu p[i]
    obtain ⟨x, hx⟩ : ∃ x, u.items[(placeV u p[i]).toNat]? = some x := item_ex (xs := u.items) (j := (placeV u p[i]).toNat) (by omega)
    refine WP.skip ?_
    refine hK11 _ ?_
    refine WP.reg tabOk rfl ?_
    refine uf th25 th22 hob ?_
    refine ul th22 hob ?_
    refine um ?_
    refine u_step (o_ia_sl (a := encV x) rfl rfl th22 rfl th25 rfl (by omega) (items_at hx) ?_)
    refine u_step (o_ld_el rfl th25 (by simp only [encV_leaf, TK.agg, Bool.not_true]) (by simp only [encV_width]) ?_)
    refine u_step0 (g_sta rfl (congrArg SV.d (encV_eq x)) th25 rfl hob (by simp [valCells]) fun o16 hb16 hk16 => ?_)
    have hzb_16 := (hk16 _ (by omega)).trans hzb
    refine u_nil ?_
    refine hK9 _ ?_
    refine WP.reg tabOk rfl ?_
    refine um ?_
    refine ub ?_
    refine ua ?_
    refine u_nil ?_
    -- back
    refine ⟨⟨i + 1, x, o16⟩, ⟨by omega, hb16, hzb_16, (fun t ht => (hk16 t (by omega)).trans ((hfr t (by omega)))), may_item hmu (List.mem_of_getElem? hx), ?_⟩, by simp only; omega, ?_⟩
    · rw [hgt, List.drop_eq_getElem_cons (by omega), get_step hp0 hx]
    · refine Le.al ?_
      simp only [List.forall_mem_cons]
      exact ⟨rfl, rfl, rfl, cnt (by omega), by simp⟩
  ·
   refine WP.exit ?_
   refine hK4 _ ?_
   refine wr ?_
   refine ug th25 hob ?_
   refine u_step0 (g_sta rfl rfl th25 rfl hzb (by first | (simp; done) | (simp [D.leaves, D.width, valCells]; done) | decide) fun o18 hb18 hk18 => ?_)
   have hob_18 := (hk18 _ (by omega)).trans hob
   refine ua ?_
   refine u_nil ?_
   refine WP.ret ?_
   refine retC_ok (resis_agg rfl th25 rfl hb18 rfl rfl rfl) rfl ?_ ?_ (by omega) (fun t ht => (hk18 t (by omega)).trans ((hfr t (by omega))))
   · rw [hgt, List.drop_eq_nil_of_le (by omega), getV]; exact (encV_eq u).symm
   · rw [hgt, List.drop_eq_nil_of_le (by omega), getV]; rfl
 ·
  exact ⟨by omega, hb2_3, hb3, (fun t ht => (hk3 t (by omega)).trans ((hk2 t (by omega)))), hm, rfl⟩
 ·
  refine Le.al ?_
  simp only [List.forall_mem_cons]
  exact ⟨rfl, rfl, rfl, rfl, by simp⟩

theorem s33 (v : Val) (p : List Str) (hm : mayV v = true) : PSpec Tryz.prog 33 [.d (encV v), .d (.sl 1 (p.map .str))] (.tup ((optL (getV v p)).map .d)) := (s33a v p hm).leT (opt_le _)
end Go.Proofs.YtfgampmhjfffdaaGreat.Abs

set_option linter.unusedVariables false
set_option linter.unusedSimpArgs false
set_option maxRecDepth 10000
namespace Go.Proofs.YtfgampmhjfffdaaGreat.Abs
open Go
def idS : Str := [95, 105, 100]
def idK : List Str := [[95, 105, 100]]
/-- May a document be inserted by an id? -/
noncomputable def mayDocV (v id : Val) : Bool := decide (v.kind = 7 ∧ checkV v = 0 ∧ getV v idK = some id)
theorem check_may {v : Val} (h : checkV v = 0) : mayV v = true := by
  unfold checkV at h
  split at h
  · cases h
  · rename_i hm; simpa using hm
theorem refDoc_l {v id : Val} (h7 : v.kind = 7) (hc : checkV v = 0) : ((getV v idK).isSome && sameV ((getV v idK).getD zeroV) id) = mayDocV v id := by
  unfold mayDocV
  rw [Bool.eq_iff_iff]
  simp only [Bool.and_eq_true, decide_eq_true_eq, same_eq, h7, hc, true_and]
  cases getV v idK with
  | none => simp
  | some y => simp
/-- May changes be an update's? -/
def mayDeltasV (l : List Dlt) : Bool := decide (checkD l = 0) && freeD l && l.all fun d => !decide (d.path[0]? = some idS)
theorem checkD_all {l : List Dlt} (h : checkD l = 0) : ∀ d ∈ l, mayD d = true := by
  unfold checkD at h
  split at h
  · cases h
  · split at h
    · rename_i h1; exact List.all_eq_true.1 h1
    · cases h
theorem mayD_path {d : Dlt} (h : mayD d = true) : 0 < d.path.length := by
  unfold mayD pathV at h
  simp only [Bool.and_eq_true, decide_eq_true_eq] at h
  omega

theorem fn15 : FnOk Tryz.prog 15 27 [4] (bodyOf Tryz.f15) := ⟨Tryz.f15, Tryz.func15, by kernel_rfl, by decide, by kernel_rfl, by kernel_rfl⟩
theorem s15 (v id : Val) (hr : rngV v) (hsz : szV v ≤ 1099511627776) : PSpec Tryz.prog 15 [.d (encV v), .d (encV id)] (.d (.bool (mayDocV v id))) := by
 obtain ⟨kd, it, tx, xs, ns⟩ := v
 obtain ⟨kd2, it2, tx2, ys, ms⟩ := id
 refine PSpec.of fn15 (by simp) fun o nk => ?_
 refine wr ?_
 refine u_step (g_box rfl fun o2 hb2 hk2 => ?_)
 refine u_step (g_box rfl fun o3 hb3 hk3 => ?_)
 have hb2_3 := (hk3 _ (by omega)).trans hb2
 refine ua ?_
 refine u_nil ?_
 refine WP.seq fun K4 hK4 => ?_
 refine wr ?_
 refine uf th25 th3 hb2_3 ?_
 refine ul th3 hb2_3 ?_
 refine ub ?_
 refine um ?_
 apply gF
 · rfl
 · intro hg
   exact pg th25 hb2_3
 apply gF
 · rfl
 · intro hg; try simp only [hg, ct]; try simp only [hg, ct, Bt]
   refine o_pcall (s14 (.mk kd it tx xs ns) hr hsz) rfl ⟨rfl, rfl, rfl⟩
 apply gF
 · rfl
 · intro hg; try simp only [hg, ct]; try simp only [hg, ct, Bt]
   exact pb
 refine uO ?_
 refine u_nil ?_
 refine wc (fun hc6 => ?_) (fun hc6 => ?_) <;> try simp only [Q0, Q1, Q2, Q3, Q4, Q5, Q6, Q7, Q8, ge_iff_le, gt_iff_lt] at hc6
 ·
  refine wr ?_
  refine ua ?_
  refine u_nil ?_
  refine WP.ret ?_
  refine ret_ok rfl ?_ (by omega) (fun t ht => (hk3 t (by omega)).trans ((hk2 t (by omega))))
  -- ret 1
  clear hK4
  refine congrArg D.bool (decide_eq_false ?_).symm
  have hq := hc6
  rintro ⟨h1, h2, h3⟩
  have h1 : kd = 7 := h1
  subst h1; simp [h2] at hq
 ·
  have hq : kd = 7 ∧ checkV (.mk kd it tx xs ns) = 0 := by simpa using hc6
  refine WP.skip ?_
  refine hK4 _ ?_
  refine wr ?_
  refine ug th25 hb2_3 ?_
  refine u_step (o_bs rfl th23 rfl th9 rfl rfl (by decide) rfl (by decide) (by decide) ?_)
  refine u_step (o_pcall (s33 (.mk kd it tx xs ns) idK (check_may hq.2)) rfl ?_)
  refine u_step (o_moveV (v := .tup _) rfl ?_)
  refine ue ?_
  refine ue ?_
  refine u_step (g_alloc th25 rfl fun o9 hb9 hk9 => ?_)
  have hb2_9 := (hk9 _ (by omega)).trans hb2_3
  have hb3_9 := (hk9 _ (by omega)).trans hb3
  refine u_step0 (g_sta rfl (congrArg SV.d (encV_eq _)) th25 rfl hb9 (by simp [valCells]) fun o10 hb10 hk10 => ?_)
  have hb2_10 := (hk10 _ (by omega)).trans hb2_9
  have hb3_10 := (hk10 _ (by omega)).trans hb3_9
  refine ua ?_
  refine u_nil ?_
  refine wr ?_
  refine um ?_
  refine um ?_
  apply gT
  · rfl
  · intro hg
    exact pg th25 hb10
  apply gT
  · rfl
  · intro hg
    exact pg th25 hb3_10
  apply gT
  · rfl
  · intro hg; try simp only [hg, ct]; try simp only [hg, ct, Bt]
    refine o_pcall (pv2 (v := (getV (.mk kd it tx xs ns) idK).getD zeroV) (s27 _ (.mk kd2 it2 tx2 ys ms))) rfl ⟨rfl, rfl, rfl⟩
  refine uA ?_
  refine ua ?_
  refine u_nil ?_
  refine WP.ret ?_
  refine ret_ok rfl ?_ (by omega) (fun t ht => (hk10 t (by omega)).trans ((hk9 t (by omega)).trans ((hk3 t (by omega)).trans ((hk2 t (by omega))))))
  -- ret 2
  refine congrArg D.bool ?_
  exact refDoc_l (v := (.mk kd it tx xs ns)) hq.1 hq.2

theorem fn16 : FnOk Tryz.prog 16 26 [2] (bodyOf Tryz.f16) := ⟨Tryz.f16, Tryz.func16, by kernel_rfl, by decide, by kernel_rfl, by kernel_rfl⟩
theorem s16 (l : List Dlt) (hl : l.length ≤ 64 → ∀ d ∈ l, okD d) : PSpec Tryz.prog 16 [.d (.sl 8 (l.map encD))] (.d (.bool (mayDeltasV l))) := by
 refine PSpec.bd fun hbd => ?_
 have hx : l.length ≤ 9223372036854775807 := by simpa using hbd.1.1
 refine PSpec.of fn16 (by simp) fun o nk => ?_
 refine wr ?_
 refine ua ?_
 refine u_nil ?_
 refine WP.seq fun K2 hK2 => ?_
 refine wr ?_
 refine um ?_
 refine u_step (o_pcall (s34 l hl) rfl ?_)
 refine ub ?_
 refine um ?_
 apply gF
 · rfl
 · intro hg
   exact pm
 apply gF
 · rfl
 · intro hg; try simp only [hg, ct]; try simp only [hg, ct, Bt]
   refine o_pcall (s35 l) rfl ⟨rfl, rfl, rfl⟩
 apply gF
 · rfl
 · intro hg; try simp only [hg, ct]; try simp only [hg, ct, Bt]
   exact pN
 refine uO ?_
 refine u_nil ?_
 refine wc (fun hc4 => ?_) (fun hc4 => ?_) <;> try simp only [Q0, Q1, Q2, Q3, Q4, Q5, Q6, Q7, Q8, ge_iff_le, gt_iff_lt] at hc4
 ·
  refine wr ?_
  refine ua ?_
  refine u_nil ?_
  refine WP.ret ?_
  refine ret_ok rfl ?_ (by omega) (fun _ _ => rfl)
  -- ret 1
  refine congrArg D.bool ?_
  have hq := hc4
  simp only [mayDeltasV]
  try simp only [Bool.or_eq_true, Bool.not_eq_true', bne_iff_ne, ne_eq] at hq
  rcases hq with h | h
  · simp [h]
  · simp [h]
 ·
  have hq : checkD l = 0 ∧ freeD l = true := by simpa using hc4
  refine WP.skip ?_
  refine hK2 _ ?_
  refine WP.seq fun K6 hK6 => ?_
  refine wr ?_
  refine ua ?_
  refine u_nil ?_
  refine WP.block ?_
  refine WP.loopL (ι := Nat) (fun i => ⟨al [(0, .d (.sl 8 (l.map encD))), (3, .d (.int .i64 i))], o, nk⟩) (fun i => i ≤ l.length ∧ (l.take i).all (fun d => !decide (d.path[0]? = some idS)) = true) (fun i => l.length - i) (fun i hA => ?_) 0 ?_ ?_
  ·
   obtain ⟨hle_i, hin_i⟩ := hA
   refine WP.seq fun K8 hK8 => ?_
   refine wr ?_
   refine um ?_
   refine um ?_
   refine un th26 ?_
   refine ub ?_
   refine u_nil ?_
   refine wc (fun hc10 => ?_) (fun hc10 => ?_) <;> try simp only [Q0, Q1, Q2, Q3, Q4, Q5, Q6, Q7, Q8, ge_iff_le, gt_iff_lt] at hc10
   ·
    have hp := mayD_path (checkD_all hq.1 l[i] (List.getElem_mem _))
    refine WP.skip ?_
    refine hK8 _ ?_
    refine WP.seq fun K11 hK11 => ?_
    refine WP.block ?_
    refine wr ?_
    refine um ?_
    refine um ?_
    first | refine u_step (o_ia_map rfl rfl th26 rfl th53 rfl (by omega) ?_) | refine u_step (o_ia_vs rfl rfl th26 rfl th53 rfl (by omega) ?_)
    refine uF th53 th23 ?_
    refine uL th23 ?_
    refine u_step (o_ia_sl (a := D.str (l[i].path[0]'hp)) rfl rfl th23 rfl th9 rfl (by decide) (by simp [hp]) ?_)
    refine uL th9 ?_
    refine u_step (o_bin_str rfl (show _ = SV.d (.str [95, 105, 100]) from rfl) rfl ?_)
    refine u_nil ?_
    refine wc (fun hc13 => ?_) (fun hc13 => ?_) <;> try simp only [Q0, Q1, Q2, Q3, Q4, Q5, Q6, Q7, Q8, ge_iff_le, gt_iff_lt] at hc13
    ·
     refine wr ?_
     refine ua ?_
     refine u_nil ?_
     refine WP.ret ?_
     refine ret_ok rfl ?_ (by omega) (fun _ _ => rfl)
     -- ret 2
     refine congrArg D.bool ?_
     have hq2 : l[i].path[0]'hp = [95, 105, 100] := by simpa using hc13
     simp only [mayDeltasV, hq.1, hq.2]
     rw [all_false (p := fun d : Dlt => !decide (d.path[0]? = some idS)) (by omega : i < l.length) (by simp [idS, List.getElem?_eq_getElem hp, hq2])]
     simp
    ·
     refine WP.skip ?_
     refine hK11 _ ?_
     refine WP.reg tabOk rfl ?_
     refine um ?_
     refine ub ?_
     refine ua ?_
     refine u_nil ?_
     -- back
     refine ⟨i + 1, ⟨by omega, ?_⟩, by omega, ?_⟩
     · rw [all_snoc (by omega), hin_i]
       have hq2 : ¬ (l[i].path[0]'hp = [95, 105, 100]) := by simpa using hc13
       simp [idS, List.getElem?_eq_getElem hp, hq2]
     · refine Le.al ?_
       simp only [List.forall_mem_cons]
       exact ⟨rfl, cnt (by omega), by simp⟩
   ·
    refine WP.exit ?_
    refine hK6 _ ?_
    refine wr ?_
    refine ua ?_
    refine u_nil ?_
    refine WP.ret ?_
    refine ret_ok rfl ?_ (by omega) (fun _ _ => rfl)
    -- ret 3
    refine congrArg D.bool ?_
    simp only [mayDeltasV, hq.1, hq.2]
    rw [all_true (by omega) hin_i]
    simp
  ·
   simp
  ·
   refine Le.al ?_
   simp only [List.forall_mem_cons]
   exact ⟨rfl, rfl, by simp⟩

end Go.Proofs.YtfgampmhjfffdaaGreat.Abs

set_option linter.unusedVariables false
set_option linter.unusedSimpArgs false
set_option maxRecDepth 10000
namespace Go.Proofs.YtfgampmhjfffdaaGreat.Abs
open Go
def s2 : Str := [36, 0]
end Go.Proofs.YtfgampmhjfffdaaGreat.Abs

set_option linter.unusedVariables false
set_option linter.unusedSimpArgs false
set_option maxRecDepth 10000
namespace Go.Proofs.YtfgampmhjfffdaaGreat.Abs
open Go
end Go.Proofs.YtfgampmhjfffdaaGreat.Abs

set_option linter.unusedVariables false
set_option linter.unusedSimpArgs false
set_option maxRecDepth 10000
namespace Go.Proofs.YtfgampmhjfffdaaGreat.Abs
open Go
end Go.Proofs.YtfgampmhjfffdaaGreat.Abs

set_option linter.unusedVariables false
set_option linter.unusedSimpArgs false
set_option maxRecDepth 10000
namespace Go.Proofs.YtfgampmhjfffdaaGreat.Abs
open Go
def hasC (k : Int) : Bool := decide (2 ≤ k) && decide (k ≤ 7)
def hasT (k : Int) : Bool := decide (k = 7)
def hasI (k : Int) : Bool := decide (k = 2) || decide (k = 3) || decide (k = 4)
def hasD (k : Int) : Bool := decide (k = 2)
def hasS (k : Int) : Bool := decide (k = 3)
theorem s11b (k : Int) : PSpec Tryz.prog 11 [.d (.int .i64 k)] (.tup [.d (.bool (hasC k)), .d (.bool (hasT k)), .d (.bool (hasI k)), .d (.bool (hasD k)), .d (.bool (hasS k))]) := by
  have h := s11 k
  have e : (hasL k).map SV.d = [.d (.bool (hasC k)), .d (.bool (hasT k)), .d (.bool (hasI k)), .d (.bool (hasD k)), .d (.bool (hasS k))] := by
    unfold hasL hasC hasT hasI hasD hasS
    by_cases h2 : k = 2
    · subst h2; rfl
    · by_cases h3 : k = 3
      · subst h3; rfl
      · by_cases h4 : k = 4
        · subst h4; rfl
        · by_cases h5 : k = 5
          · subst h5; rfl
          · by_cases h6 : k = 6
            · subst h6; rfl
            · by_cases h7 : k = 7
              · subst h7; rfl
              · have : (decide (2 ≤ k) && decide (k ≤ 7)) = false := by simp; omega
                simp [h2, h3, h4, h5, h6, h7, this]
  rwa [e] at h
structure Bits (k : Int) : Prop where
  t1 : (bitsOf .and .i64 (fieldsV k) 2 != 0) = hasT k
  t0 : (bitsOf .and .i64 (fieldsV k) 2 == 0) = !hasT k
  c1 : (bitsOf .and .i64 (fieldsV k) 1 != 0) = hasC k
  c0 : (bitsOf .and .i64 (fieldsV k) 1 == 0) = !hasC k
  i1 : (bitsOf .and .i64 (fieldsV k) 4 != 0) = hasI k
  i0 : (bitsOf .and .i64 (fieldsV k) 4 == 0) = !hasI k
  d1 : (bitsOf .and .i64 (fieldsV k) 8 != 0) = hasD k
  d0 : (bitsOf .and .i64 (fieldsV k) 8 == 0) = !hasD k
  s1 : (bitsOf .and .i64 (fieldsV k) 16 != 0) = hasS k
  s0 : (bitsOf .and .i64 (fieldsV k) 16 == 0) = !hasS k
def namesE (e : Etr) : Bool := (if hasT e.kind = true then collV e.to && !decide (e.to = e.coll) else decide (e.to = [])) && (if hasC e.kind = true then collV e.coll else decide (e.coll = []))
noncomputable def valuesE (e : Etr) : Bool := (hasI e.kind || noneV e.id) && (hasD e.kind || noneV e.doc) && (hasS e.kind || decide (e.deltas.length = 0)) && (!hasI e.kind || decide (checkV e.id = 0)) && (!hasD e.kind || mayDocV e.doc e.id) && (!hasS e.kind || mayDeltasV e.deltas)
/-- May an entry be? -/
noncomputable def mayE (e : Etr) : Bool := (decide (1 ≤ e.kind) && decide (e.kind ≤ 7)) && (decide (0 ≤ e.term) && decide (e.term ≤ 1099511627776)) && (decide (0 ≤ e.session) && decide (e.session ≤ 255)) && (decide (0 ≤ e.number) && decide (e.number ≤ 1099511627776)) && (!decide (e.kind = 1) || decide (e.session = 0) && decide (e.number = 0)) && namesE e && valuesE e
structure OkE (e : Etr) : Prop where
  ri : rngV e.id
  si : szV e.id ≤ 1099511627776
  rd : rngV e.doc
  sd : szV e.doc ≤ 1099511627776
  ds : e.deltas.length ≤ 64 → ∀ d ∈ e.deltas, okD d
theorem coll_nil : collV [] = false := by decide
theorem d_imp_i {k : Int} (h : hasD k = true) : hasI k = true := by
  unfold hasD at h; unfold hasI; simp at h; simp [h]
theorem pvE {P : Program} {f : FuncId} {v w : Val} {r : SV} (h : PSpec P f [.d (encV v), .d (encV w)] r) : PSpec P f [.d (.agg (valCells v)), .d (.agg (valCells w))] r := by
  rw [encV_eq, encV_eq] at h; exact h

end Go.Proofs.YtfgampmhjfffdaaGreat.Abs

set_option linter.unusedVariables false
set_option linter.unusedSimpArgs false
set_option maxRecDepth 10000
namespace Go.Proofs.YtfgampmhjfffdaaGreat.Abs
open Go
theorem fn5 : FnOk Tryz.prog 5 160 [2] (bodyOf Tryz.f5) := ⟨Tryz.f5, Tryz.func5, by kernel_rfl, by decide, by kernel_rfl, by kernel_rfl⟩
theorem s5 (e : Etr) (ok : OkE e) : PSpec Tryz.prog 5 [.d (encE e)] (.d (.bool (mayE e))) := by
 refine PSpec.of fn5 (by simp) fun o nk => ?_
 refine wr ?_
 refine u_step (g_box rfl fun o2 hb2 hk2 => ?_)
 refine ua ?_
 refine u_nil ?_
 refine WP.seq fun K3 hK3 => ?_
 refine wr ?_
 refine uf th28 th3 hb2 ?_
 refine ul th3 hb2 ?_
 refine ub ?_
 refine um ?_
 apply gF
 · rfl
 · intro hg
   exact pf th28 th3 hb2
 apply gF
 · rfl
 · intro hg; try simp only [hg, ct]; try simp only [hg, ct, Bt]
   exact pl th3 hb2
 apply gF
 · rfl
 · intro hg; try simp only [hg, ct]; try simp only [hg, ct, Bt]
   exact pb
 refine uO ?_
 refine um ?_
 apply gF
 · rfl
 · intro hg
   exact pf th28 th3 hb2
 apply gF
 · rfl
 · intro hg; try simp only [hg, ct]; try simp only [hg, ct, Bt]
   exact pl th3 hb2
 apply gF
 · rfl
 · intro hg; try simp only [hg, ct]; try simp only [hg, ct, Bt]
   exact pb
 refine uO ?_
 refine um ?_
 apply gF
 · rfl
 · intro hg
   exact pf th28 th3 hb2
 apply gF
 · rfl
 · intro hg; try simp only [hg, ct]; try simp only [hg, ct, Bt]
   exact pl th3 hb2
 apply gF
 · rfl
 · intro hg; try simp only [hg, ct]; try simp only [hg, ct, Bt]
   exact pb
 refine uO ?_
 refine um ?_
 apply gF
 · rfl
 · intro hg
   exact pf th28 th3 hb2
 apply gF
 · rfl
 · intro hg; try simp only [hg, ct]; try simp only [hg, ct, Bt]
   exact pl th3 hb2
 apply gF
 · rfl
 · intro hg; try simp only [hg, ct]; try simp only [hg, ct, Bt]
   exact pb
 refine uO ?_
 refine um ?_
 apply gF
 · rfl
 · intro hg
   exact pf th28 th3 hb2
 apply gF
 · rfl
 · intro hg; try simp only [hg, ct]; try simp only [hg, ct, Bt]
   exact pl th3 hb2
 apply gF
 · rfl
 · intro hg; try simp only [hg, ct]; try simp only [hg, ct, Bt]
   exact pb
 refine uO ?_
 refine um ?_
 apply gF
 · rfl
 · intro hg
   exact pf th28 th3 hb2
 apply gF
 · rfl
 · intro hg; try simp only [hg, ct]; try simp only [hg, ct, Bt]
   exact pl th3 hb2
 apply gF
 · rfl
 · intro hg; try simp only [hg, ct]; try simp only [hg, ct, Bt]
   exact pb
 refine uO ?_
 refine um ?_
 apply gF
 · rfl
 · intro hg
   exact pf th28 th3 hb2
 apply gF
 · rfl
 · intro hg; try simp only [hg, ct]; try simp only [hg, ct, Bt]
   exact pl th3 hb2
 apply gF
 · rfl
 · intro hg; try simp only [hg, ct]; try simp only [hg, ct, Bt]
   exact pb
 refine uO ?_
 refine u_nil ?_
 refine wc (fun hc5 => ?_) (fun hc5 => ?_) <;> try simp only [Q0, Q1, Q2, Q3, Q4, Q5, Q6, Q7, Q8, ge_iff_le, gt_iff_lt] at hc5
 ·
  refine wr ?_
  refine ua ?_
  refine u_nil ?_
  refine WP.ret ?_
  refine ret_ok rfl ?_ (by omega) (fun t ht => (hk2 t (by omega)))
  -- ret 1
  clear hK3
  refine congrArg D.bool ?_
  have hcn := coll_nil
  have hdi := @d_imp_i e.kind
  have hl0 : e.deltas.length = 0 ↔ e.deltas = [] := List.length_eq_zero_iff
  simp only [mayE, namesE, valuesE, List.length_map] at *
  grind
 ·
  refine WP.skip ?_
  refine hK3 _ ?_
  refine wr ?_
  refine uf th28 th3 hb2 ?_
  refine ul th3 hb2 ?_
  refine u_step (o_pcall (s11b e.kind) rfl ?_)
  refine u_step (o_moveV (v := .tup _) rfl ?_)
  refine ue ?_
  refine ue ?_
  refine ue ?_
  refine ue ?_
  refine ue ?_
  refine ua ?_
  refine ua ?_
  refine ua ?_
  refine ua ?_
  refine ua ?_
  refine u_nil ?_
  refine WP.seq fun K8 hK8 => ?_
  refine wr ?_
  refine um ?_
  refine uf th28 th9 hb2 ?_
  refine ul th9 hb2 ?_
  refine u_step (o_bin_str rfl (show _ = SV.d (.str []) from rfl) rfl ?_)
  refine u_step (o_bin_neb rfl rfl th4 rfl ?_)
  refine um ?_
  apply gF
  · rfl
  · intro hg
    exact pm
  apply gF
  · rfl
  · intro hg; try simp only [hg, ct]; try simp only [hg, ct, Bt]
    exact pm
  apply u_guard
  · exact GC.ct _ _
  · intro hg
    exact pf th28 th9 hb2
  apply u_guard
  · exact GC.ct _ _
  · intro hg; try simp only [hg, ct]; try simp only [hg, ct, Bt]
    exact pl th9 hb2
  apply u_guard
  · exact GC.ct _ _
  · intro hg; try simp only [hg, ct]; try simp only [hg, ct, Bt]
    refine o_pcall (s12 e.coll) rfl ⟨rfl, rfl, rfl⟩
  apply u_guard
  · exact GC.ct _ _
  · intro hg; try simp only [hg, ct]; try simp only [hg, ct, Bt]
    exact pN
  apply gF
  · rfl
  · intro hg; try simp only [hg, ct]; try simp only [hg, ct, Bt]
    exact pA
  refine uO ?_
  refine um ?_
  apply gF
  · rfl
  · intro hg
    exact pm
  apply gF
  · rfl
  · intro hg
    exact pf th28 th9 hb2
  apply gF
  · rfl
  · intro hg; try simp only [hg, ct]; try simp only [hg, ct, Bt]
    exact pl th9 hb2
  apply gF
  · rfl
  · intro hg; try simp only [hg, ct]; try simp only [hg, ct, Bt]
    refine o_bin_str rfl (show _ = SV.d (.str []) from rfl) rfl ⟨rfl, rfl, rfl⟩
  apply gF
  · rfl
  · intro hg; try simp only [hg, ct]; try simp only [hg, ct, Bt]
    refine o_bin_neb rfl rfl th4 rfl ⟨rfl, rfl, rfl⟩
  refine uO ?_
  refine um ?_
  apply gF
  · rfl
  · intro hg
    exact pm
  apply gF
  · rfl
  · intro hg; try simp only [hg, ct]; try simp only [hg, ct, Bt]
    exact pm
  apply u_guard
  · exact GC.ct _ _
  · intro hg
    exact pf th28 th9 hb2
  apply u_guard
  · exact GC.ct _ _
  · intro hg; try simp only [hg, ct]; try simp only [hg, ct, Bt]
    exact pl th9 hb2
  apply u_guard
  · exact GC.ct _ _
  · intro hg; try simp only [hg, ct]; try simp only [hg, ct, Bt]
    refine o_pcall (s12 e.to) rfl ⟨rfl, rfl, rfl⟩
  apply u_guard
  · exact GC.ct _ _
  · intro hg; try simp only [hg, ct]; try simp only [hg, ct, Bt]
    exact pN
  apply u_guard
  · exact GC.ct _ _
  · intro hg; try simp only [hg, ct]; try simp only [hg, ct, Bt]
    exact pm
  apply u_guard
  · exact GC.cf _ _
  · intro hg
    exact pf th28 th9 hb2
  apply u_guard
  · exact GC.cf _ _
  · intro hg; try simp only [hg, ct]; try simp only [hg, ct, Bt]
    exact pl th9 hb2
  apply u_guard
  · exact GC.cf _ _
  · intro hg
    exact pf th28 th9 hb2
  apply u_guard
  · exact GC.cf _ _
  · intro hg; try simp only [hg, ct]; try simp only [hg, ct, Bt]
    exact pl th9 hb2
  apply u_guard
  · exact GC.cf _ _
  · intro hg; try simp only [hg, ct]; try simp only [hg, ct, Bt]
    exact ps
  apply u_guard
  · exact GC.ct _ _
  · intro hg; try simp only [hg, ct]; try simp only [hg, ct, Bt]
    exact pO
  apply gF
  · rfl
  · intro hg; try simp only [hg, ct]; try simp only [hg, ct, Bt]
    exact pA
  refine uO ?_
  refine u_nil ?_
  refine wc (fun hc10 => ?_) (fun hc10 => ?_) <;> try simp only [Q0, Q1, Q2, Q3, Q4, Q5, Q6, Q7, Q8, ge_iff_le, gt_iff_lt] at hc10
  ·
   refine wr ?_
   refine ua ?_
   refine u_nil ?_
   refine WP.ret ?_
   refine ret_ok rfl ?_ (by omega) (fun t ht => (hk2 t (by omega)))
   -- ret 2
   clear hK3 hK8
   refine congrArg D.bool ?_
   have hcn := coll_nil
   have hdi := @d_imp_i e.kind
   have hl0 : e.deltas.length = 0 ↔ e.deltas = [] := List.length_eq_zero_iff
   simp only [mayE, namesE, valuesE, List.length_map] at *
   grind
  ·
   refine WP.skip ?_
   refine hK8 _ ?_
   refine WP.seq fun K12 hK12 => ?_
   refine wr ?_
   refine um ?_
   refine uN ?_
   refine um ?_
   apply gT
   · rfl
   · intro hg
     exact pf th28 th25 hb2
   apply gT
   · rfl
   · intro hg; try simp only [hg, ct]; try simp only [hg, ct, Bt]
     exact pg th25 hb2
   apply gT
   · rfl
   · intro hg; try simp only [hg, ct]; try simp only [hg, ct, Bt]
     refine o_pcall (pv (v := e.id) (s13 e.id)) rfl ⟨rfl, rfl, rfl⟩
   apply gT
   · rfl
   · intro hg; try simp only [hg, ct]; try simp only [hg, ct, Bt]
     exact pN
   refine uA ?_
   refine um ?_
   apply gF
   · rfl
   · intro hg
     exact pm
   apply gF
   · rfl
   · intro hg; try simp only [hg, ct]; try simp only [hg, ct, Bt]
     exact pm
   apply u_guard
   · exact GC.ct _ _
   · intro hg
     exact pf th28 th25 hb2
   apply u_guard
   · exact GC.ct _ _
   · intro hg; try simp only [hg, ct]; try simp only [hg, ct, Bt]
     exact pg th25 hb2
   apply u_guard
   · exact GC.ct _ _
   · intro hg; try simp only [hg, ct]; try simp only [hg, ct, Bt]
     refine o_pcall (pv (v := e.id) (s14 e.id ok.ri ok.si)) rfl ⟨rfl, rfl, rfl⟩
   apply u_guard
   · exact GC.ct _ _
   · intro hg; try simp only [hg, ct]; try simp only [hg, ct, Bt]
     exact pb
   apply gF
   · rfl
   · intro hg; try simp only [hg, ct]; try simp only [hg, ct, Bt]
     exact pA
   refine uO ?_
   refine u_nil ?_
   refine wc (fun hc14 => ?_) (fun hc14 => ?_) <;> try simp only [Q0, Q1, Q2, Q3, Q4, Q5, Q6, Q7, Q8, ge_iff_le, gt_iff_lt] at hc14
   ·
    refine wr ?_
    refine ua ?_
    refine u_nil ?_
    refine WP.ret ?_
    refine ret_ok rfl ?_ (by omega) (fun t ht => (hk2 t (by omega)))
    -- ret 3
    clear hK3 hK8 hK12
    refine congrArg D.bool ?_
    have hcn := coll_nil
    have hdi := @d_imp_i e.kind
    have hl0 : e.deltas.length = 0 ↔ e.deltas = [] := List.length_eq_zero_iff
    simp only [mayE, namesE, valuesE, List.length_map] at *
    grind
   ·
    refine WP.skip ?_
    refine hK12 _ ?_
    refine WP.seq fun K16 hK16 => ?_
    refine wr ?_
    refine um ?_
    refine uN ?_
    refine um ?_
    apply gT
    · rfl
    · intro hg
      exact pf th28 th25 hb2
    apply gT
    · rfl
    · intro hg; try simp only [hg, ct]; try simp only [hg, ct, Bt]
      exact pg th25 hb2
    apply gT
    · rfl
    · intro hg; try simp only [hg, ct]; try simp only [hg, ct, Bt]
      refine o_pcall (pv (v := e.doc) (s13 e.doc)) rfl ⟨rfl, rfl, rfl⟩
    apply gT
    · rfl
    · intro hg; try simp only [hg, ct]; try simp only [hg, ct, Bt]
      exact pN
    refine uA ?_
    refine um ?_
    apply gF
    · rfl
    · intro hg
      exact pm
    apply gF
    · rfl
    · intro hg; try simp only [hg, ct]; try simp only [hg, ct, Bt]
      exact pm
    apply u_guard
    · exact GC.ct _ _
    · intro hg
      exact pf th28 th25 hb2
    apply u_guard
    · exact GC.ct _ _
    · intro hg; try simp only [hg, ct]; try simp only [hg, ct, Bt]
      exact pg th25 hb2
    apply u_guard
    · exact GC.ct _ _
    · intro hg
      exact pf th28 th25 hb2
    apply u_guard
    · exact GC.ct _ _
    · intro hg; try simp only [hg, ct]; try simp only [hg, ct, Bt]
      exact pg th25 hb2
    apply u_guard
    · exact GC.ct _ _
    · intro hg; try simp only [hg, ct]; try simp only [hg, ct, Bt]
      refine o_pcall (pvE (v := e.doc) (w := e.id) (s15 e.doc e.id ok.rd ok.sd)) rfl ⟨rfl, rfl, rfl⟩
    apply u_guard
    · exact GC.ct _ _
    · intro hg; try simp only [hg, ct]; try simp only [hg, ct, Bt]
      exact pN
    apply gF
    · rfl
    · intro hg; try simp only [hg, ct]; try simp only [hg, ct, Bt]
      exact pA
    refine uO ?_
    refine um ?_
    apply gF
    · rfl
    · intro hg
      exact pm
    apply gF
    · rfl
    · intro hg; try simp only [hg, ct]; try simp only [hg, ct, Bt]
      exact pN
    apply gF
    · rfl
    · intro hg; try simp only [hg, ct]; try simp only [hg, ct, Bt]
      exact pm
    apply u_guard
    · exact GC.ct _ _
    · intro hg
      exact pf th28 th26 hb2
    apply u_guard
    · exact GC.ct _ _
    · intro hg; try simp only [hg, ct]; try simp only [hg, ct, Bt]
      exact pl th26 hb2
    apply u_guard
    · exact GC.ct _ _
    · intro hg; try simp only [hg, ct]; try simp only [hg, ct, Bt]
      exact pn th26
    apply u_guard
    · exact GC.ct _ _
    · intro hg; try simp only [hg, ct]; try simp only [hg, ct, Bt]
      exact pb
    apply gF
    · rfl
    · intro hg; try simp only [hg, ct]; try simp only [hg, ct, Bt]
      exact pA
    refine uO ?_
    refine um ?_
    apply gF
    · rfl
    · intro hg
      exact pm
    apply gF
    · rfl
    · intro hg; try simp only [hg, ct]; try simp only [hg, ct, Bt]
      exact pm
    apply u_guard
    · exact GC.ct _ _
    · intro hg
      exact pf th28 th26 hb2
    apply u_guard
    · exact GC.ct _ _
    · intro hg; try simp only [hg, ct]; try simp only [hg, ct, Bt]
      exact pl th26 hb2
    apply u_guard
    · exact GC.ct _ _
    · intro hg; try simp only [hg, ct]; try simp only [hg, ct, Bt]
      refine o_pcall (s16 e.deltas ok.ds) rfl ⟨rfl, rfl, rfl⟩
    apply u_guard
    · exact GC.ct _ _
    · intro hg; try simp only [hg, ct]; try simp only [hg, ct, Bt]
      exact pN
    apply gF
    · rfl
    · intro hg; try simp only [hg, ct]; try simp only [hg, ct, Bt]
      exact pA
    refine uO ?_
    refine u_nil ?_
    refine wc (fun hc18 => ?_) (fun hc18 => ?_) <;> try simp only [Q0, Q1, Q2, Q3, Q4, Q5, Q6, Q7, Q8, ge_iff_le, gt_iff_lt] at hc18
    ·
     refine wr ?_
     refine ua ?_
     refine u_nil ?_
     refine WP.ret ?_
     refine ret_ok rfl ?_ (by omega) (fun t ht => (hk2 t (by omega)))
     -- ret 4
     clear hK3 hK8 hK12 hK16
     refine congrArg D.bool ?_
     have hcn := coll_nil
     have hdi := @d_imp_i e.kind
     have hl0 : e.deltas.length = 0 ↔ e.deltas = [] := List.length_eq_zero_iff
     simp only [mayE, namesE, valuesE, List.length_map] at *
     grind
    ·
     refine WP.skip ?_
     refine hK16 _ ?_
     refine wr ?_
     refine uf th28 th3 hb2 ?_
     refine ul th3 hb2 ?_
     refine ub ?_
     refine um ?_
     apply gF
     · rfl
     · intro hg
       exact pf th28 th3 hb2
     apply gF
     · rfl
     · intro hg; try simp only [hg, ct]; try simp only [hg, ct, Bt]
       exact pl th3 hb2
     apply gF
     · rfl
     · intro hg; try simp only [hg, ct]; try simp only [hg, ct, Bt]
       exact pb
     apply gF
     · rfl
     · intro hg; try simp only [hg, ct]; try simp only [hg, ct, Bt]
       exact pm
     apply u_guard
     · exact GC.ct _ _
     · intro hg
       exact pf th28 th3 hb2
     apply u_guard
     · exact GC.ct _ _
     · intro hg; try simp only [hg, ct]; try simp only [hg, ct, Bt]
       exact pl th3 hb2
     apply u_guard
     · exact GC.ct _ _
     · intro hg; try simp only [hg, ct]; try simp only [hg, ct, Bt]
       exact pb
     apply gF
     · rfl
     · intro hg; try simp only [hg, ct]; try simp only [hg, ct, Bt]
       exact pA
     refine uO ?_
     refine ua ?_
     refine u_nil ?_
     refine WP.ret ?_
     refine ret_ok rfl ?_ (by omega) (fun t ht => (hk2 t (by omega)))
     -- ret 5
     clear hK3 hK8 hK12 hK16
     refine congrArg D.bool ?_
     have hcn := coll_nil
     have hdi := @d_imp_i e.kind
     have hl0 : e.deltas.length = 0 ↔ e.deltas = [] := List.length_eq_zero_iff
     simp only [mayE, namesE, valuesE, List.length_map] at *
     grind

end Go.Proofs.YtfgampmhjfffdaaGreat.Abs

set_option linter.unusedVariables false
set_option linter.unusedSimpArgs false
namespace Go.Proofs.YtfgampmhjfffdaaGreat.Abs
open Go
section
variable {P : Program} {Θ : Tab} {K : SV → (Nat → Option AO) → Nat → Prop} {sl : Nat → SV} {o : Nat → Option AO} {nk : Nat} {x y ix : Operand} {t e f : Nat}
end
section
variable {P : Program} {Θ : Tab} {ops : Array Oper} {K : St → Prop} {r : List Oper} {sl : Nat → SV} {d ty j lo m nk nk' : Nat} {o o' : Nat → Option AO} {op : Op} {pos : String} {af : Array Edge} {want c : Bool} {v : SV} {L : List Ob} {ks : List Kd}
end
end Go.Proofs.YtfgampmhjfffdaaGreat.Abs

set_option linter.unusedVariables false
set_option linter.unusedSimpArgs false
set_option maxRecDepth 10000
namespace Go.Proofs.YtfgampmhjfffdaaGreat.Abs
open Go
theorem pvv {P : Program} {f : FuncId} {v w : Val} {r : SV} (h : PSpec P f [.d (encV v), .d (encV w)] r) : PSpec P f [.d (.agg (valCells v)), .d (.agg (valCells w))] r := by rw [← encV_eq, ← encV_eq]; exact h
theorem dlt_same {x y : Dlt} : (x.kind != y.kind || x.n != y.n || !decide (x.path = y.path) || !sameV x.value y.value) = true ↔ ¬ x = y := by
  cases x; cases y
  simp only [Dlt.mk.injEq, Bool.or_eq_true, bne_iff_ne, Bool.not_eq_true', decide_eq_false_iff_not, ← Bool.not_eq_true, same_eq, ne_eq]
  grind
open Classical in
noncomputable def sameDs (a b : List Dlt) : Bool := decide (a = b)
open Classical in
noncomputable def sameE (a b : Etr) : Bool := decide (a = b)
theorem sameDs_ne {a b : List Dlt} (h : ¬ a = b) : sameDs a b = false := by simp [sameDs, h]
theorem sameE_refl (a : Etr) : sameE a a = true := by simp [sameE]
theorem sameE_iff {a b : Etr} : sameE a b = true ↔ a.term = b.term ∧ a.kind = b.kind ∧ a.coll = b.coll ∧ a.to = b.to ∧ a.id = b.id ∧ a.doc = b.doc ∧ a.deltas = b.deltas ∧ a.session = b.session ∧ a.number = b.number := by
  cases a; cases b
  simp [sameE]
theorem sameDs_iff {a b : List Dlt} : sameDs a b = true ↔ a = b := by simp [sameDs]
@[simp] theorem vc_len (v : Val) : (valCells v).length = 5 := by cases v; rfl
theorem fn28 : FnOk Tryz.prog 28 69 [4] (bodyOf Tryz.f28) := ⟨Tryz.f28, Tryz.func28, by kernel_rfl, by decide, by kernel_rfl, by kernel_rfl⟩
theorem s28 (a b : List Dlt) : PSpec Tryz.prog 28 [.d (.sl 8 (a.map encD)), .d (.sl 8 (b.map encD))] (.d (.bool (sameDs a b))) := by
 refine PSpec.bd fun hbd => ?_
 have hx : a.length ≤ 9223372036854775807 := by simpa using hbd.1.1
 refine PSpec.of fn28 (by simp) fun o nk => ?_
 refine wr ?_
 refine ua ?_
 refine u_nil ?_
 refine WP.seq fun K2 hK2 => ?_
 refine wr ?_
 refine um ?_
 refine un th26 ?_
 refine um ?_
 refine un th26 ?_
 refine ub ?_
 refine u_nil ?_
 refine wc (fun hc4 => ?_) (fun hc4 => ?_) <;> try simp only [Q0, Q1, Q2, Q3, Q4, Q5, Q6, Q7, Q8, ge_iff_le, gt_iff_lt] at hc4
 ·
  refine wr ?_
  refine ua ?_
  refine u_nil ?_
  refine WP.ret ?_
  refine ret_ok rfl ?_ (by omega) (fun _ _ => rfl)
  -- ret 1
  refine congrArg D.bool (sameDs_ne ?_).symm
  rintro rfl
  have hl := hc4
  simp at hl
 ·
  have hab : a.length = b.length := by have := hc4; (try simp at this); omega
  refine WP.skip ?_
  refine hK2 _ ?_
  refine WP.seq fun K6 hK6 => ?_
  refine wr ?_
  refine ua ?_
  refine u_nil ?_
  refine WP.block ?_
  refine WP.loopL (ι := Nat) (fun i => ⟨al [(0, .d (.sl 8 (a.map encD))), (1, .d (.sl 8 (b.map encD))), (5, .d (.int .i64 i))], o, nk⟩) (fun i => i ≤ a.length ∧ ∀ (j : Nat) (hj : j < a.length) (hk : j < b.length), j < i → a[j] = b[j]) (fun i => a.length - i) (fun i hA => ?_) 0 ?_ ?_
  ·
   obtain ⟨hle_i, hin_i⟩ := hA
   refine WP.seq fun K8 hK8 => ?_
   refine wr ?_
   refine um ?_
   refine um ?_
   refine un th26 ?_
   refine ub ?_
   refine u_nil ?_
   refine wc (fun hc10 => ?_) (fun hc10 => ?_) <;> try simp only [Q0, Q1, Q2, Q3, Q4, Q5, Q6, Q7, Q8, ge_iff_le, gt_iff_lt] at hc10
   ·
    have hil : i < a.length := by have := hc10; (try simp at this); omega
    have hil2 : i < b.length := by omega
    refine WP.skip ?_
    refine hK8 _ ?_
    refine WP.seq fun K11 hK11 => ?_
    refine WP.block ?_
    refine wd ?_
    refine dm ?_
    refine dm ?_
    first | refine d_step (o_ia_map rfl rfl th26 rfl th53 rfl (by omega) ⟨rfl, rfl, rfl⟩) ?_ | refine d_step (o_ia_vs rfl rfl th26 rfl th53 rfl (by omega) ⟨rfl, rfl, rfl⟩) ?_
    refine dF th53 th3 ?_
    refine dL th3 ?_
    refine dm ?_
    refine dm ?_
    first | refine d_step (o_ia_map rfl rfl th26 rfl th53 rfl (by omega) ⟨rfl, rfl, rfl⟩) ?_ | refine d_step (o_ia_vs rfl rfl th26 rfl th53 rfl (by omega) ⟨rfl, rfl, rfl⟩) ?_
    refine dF th53 th3 ?_
    refine dL th3 ?_
    refine db ?_
    refine dm ?_
    apply d_guard
    · exact GC.f _
    · intro hg
      exact pm
    apply d_guard
    · exact GC.f _
    · intro hg
      exact pm
    apply d_guard
    · exact GC.f _
    · intro hg; try simp only [hg, ct]; try simp only [hg, ct, Bt]
      have hg2 := hg; try simp only [Q0, Q1, Q2, Q3, Q4, Q5, Q6, Q9, Qa, Qb, Qc, Qd] at hg2
      first | refine o_ia_map rfl rfl th26 rfl th53 rfl (by omega) ⟨rfl, rfl, rfl⟩ | refine o_ia_vs rfl rfl th26 rfl th53 rfl (by omega) ⟨rfl, rfl, rfl⟩
    apply d_guard
    · exact GC.f _
    · intro hg; try simp only [hg, ct]; try simp only [hg, ct, Bt]
      exact pF th53 th3
    apply d_guard
    · exact GC.f _
    · intro hg; try simp only [hg, ct]; try simp only [hg, ct, Bt]
      exact pL th3
    apply d_guard
    · exact GC.f _
    · intro hg
      exact pm
    apply d_guard
    · exact GC.f _
    · intro hg
      exact pm
    apply d_guard
    · exact GC.f _
    · intro hg; try simp only [hg, ct]; try simp only [hg, ct, Bt]
      have hg2 := hg; try simp only [Q0, Q1, Q2, Q3, Q4, Q5, Q6, Q9, Qa, Qb, Qc, Qd] at hg2
      first | refine o_ia_map rfl rfl th26 rfl th53 rfl (by omega) ⟨rfl, rfl, rfl⟩ | refine o_ia_vs rfl rfl th26 rfl th53 rfl (by omega) ⟨rfl, rfl, rfl⟩
    apply d_guard
    · exact GC.f _
    · intro hg; try simp only [hg, ct]; try simp only [hg, ct, Bt]
      exact pF th53 th3
    apply d_guard
    · exact GC.f _
    · intro hg; try simp only [hg, ct]; try simp only [hg, ct, Bt]
      exact pL th3
    apply d_guard
    · exact GC.f _
    · intro hg; try simp only [hg, ct]; try simp only [hg, ct, Bt]
      exact pb
    refine dO ?_
    refine dm ?_
    apply d_guard
    · exact GC.f _
    · intro hg
      exact pm
    apply d_guard
    · exact GC.f _
    · intro hg
      exact pm
    apply d_guard
    · exact GC.f _
    · intro hg; try simp only [hg, ct]; try simp only [hg, ct, Bt]
      have hg2 := hg; try simp only [Q0, Q1, Q2, Q3, Q4, Q5, Q6, Q9, Qa, Qb, Qc, Qd] at hg2
      first | refine o_ia_map rfl rfl th26 rfl th53 rfl (by omega) ⟨rfl, rfl, rfl⟩ | refine o_ia_vs rfl rfl th26 rfl th53 rfl (by omega) ⟨rfl, rfl, rfl⟩
    apply d_guard
    · exact GC.f _
    · intro hg; try simp only [hg, ct]; try simp only [hg, ct, Bt]
      exact pF th53 th23
    apply d_guard
    · exact GC.f _
    · intro hg; try simp only [hg, ct]; try simp only [hg, ct, Bt]
      exact pL th23
    apply d_guard
    · exact GC.f _
    · intro hg
      exact pm
    apply d_guard
    · exact GC.f _
    · intro hg
      exact pm
    apply d_guard
    · exact GC.f _
    · intro hg; try simp only [hg, ct]; try simp only [hg, ct, Bt]
      have hg2 := hg; try simp only [Q0, Q1, Q2, Q3, Q4, Q5, Q6, Q9, Qa, Qb, Qc, Qd] at hg2
      first | refine o_ia_map rfl rfl th26 rfl th53 rfl (by omega) ⟨rfl, rfl, rfl⟩ | refine o_ia_vs rfl rfl th26 rfl th53 rfl (by omega) ⟨rfl, rfl, rfl⟩
    apply d_guard
    · exact GC.f _
    · intro hg; try simp only [hg, ct]; try simp only [hg, ct, Bt]
      exact pF th53 th23
    apply d_guard
    · exact GC.f _
    · intro hg; try simp only [hg, ct]; try simp only [hg, ct, Bt]
      exact pL th23
    apply d_guard
    · exact GC.f _
    · intro hg; try simp only [hg, ct]; try simp only [hg, ct, Bt]
      refine o_pcall (s59 (a[i].path) (b[i].path)) rfl ⟨rfl, rfl, rfl⟩
    apply d_guard
    · exact GC.f _
    · intro hg; try simp only [hg, ct]; try simp only [hg, ct, Bt]
      exact pN
    refine dO ?_
    refine dm ?_
    apply d_guard
    · exact GC.f _
    · intro hg
      exact pm
    apply d_guard
    · exact GC.f _
    · intro hg
      exact pm
    apply d_guard
    · exact GC.f _
    · intro hg; try simp only [hg, ct]; try simp only [hg, ct, Bt]
      have hg2 := hg; try simp only [Q0, Q1, Q2, Q3, Q4, Q5, Q6, Q9, Qa, Qb, Qc, Qd] at hg2
      first | refine o_ia_map rfl rfl th26 rfl th53 rfl (by omega) ⟨rfl, rfl, rfl⟩ | refine o_ia_vs rfl rfl th26 rfl th53 rfl (by omega) ⟨rfl, rfl, rfl⟩
    apply d_guard
    · exact GC.f _
    · intro hg; try simp only [hg, ct]; try simp only [hg, ct, Bt]
      exact pF th53 th25
    apply d_guard
    · exact GC.f _
    · intro hg; try simp only [hg, ct]; try simp only [hg, ct, Bt]
      exact pL th25
    apply d_guard
    · exact GC.f _
    · intro hg
      exact pm
    apply d_guard
    · exact GC.f _
    · intro hg
      exact pm
    apply d_guard
    · exact GC.f _
    · intro hg; try simp only [hg, ct]; try simp only [hg, ct, Bt]
      have hg2 := hg; try simp only [Q0, Q1, Q2, Q3, Q4, Q5, Q6, Q9, Qa, Qb, Qc, Qd] at hg2
      first | refine o_ia_map rfl rfl th26 rfl th53 rfl (by omega) ⟨rfl, rfl, rfl⟩ | refine o_ia_vs rfl rfl th26 rfl th53 rfl (by omega) ⟨rfl, rfl, rfl⟩
    apply d_guard
    · exact GC.f _
    · intro hg; try simp only [hg, ct]; try simp only [hg, ct, Bt]
      exact pF th53 th25
    apply d_guard
    · exact GC.f _
    · intro hg; try simp only [hg, ct]; try simp only [hg, ct, Bt]
      exact pL th25
    apply d_guard
    · exact GC.f _
    · intro hg; try simp only [hg, ct]; try simp only [hg, ct, Bt]
      refine o_pcall (pvv (s27 a[i].value b[i].value)) rfl ⟨rfl, rfl, rfl⟩
    apply d_guard
    · exact GC.f _
    · intro hg; try simp only [hg, ct]; try simp only [hg, ct, Bt]
      exact pN
    refine dO ?_
    refine d_nil ?_
    refine wc (fun hc13 => ?_) (fun hc13 => ?_) <;> try simp only [Q0, Q1, Q2, Q3, Q4, Q5, Q6, Q7, Q8, ge_iff_le, gt_iff_lt] at hc13
    ·
     refine wr ?_
     refine ua ?_
     refine u_nil ?_
     refine WP.ret ?_
     refine ret_ok rfl ?_ (by omega) (fun _ _ => rfl)
     -- ret 2
     refine congrArg D.bool (sameDs_ne ?_).symm
     rintro rfl
     have hl := hc13
     exact absurd rfl (dlt_same.1 hl)
    ·
     refine WP.skip ?_
     refine hK11 _ ?_
     refine WP.reg tabOk rfl ?_
     refine um ?_
     refine ub ?_
     refine ua ?_
     refine u_nil ?_
     -- back
     refine ⟨i + 1, ⟨by omega, ?_⟩, by omega, ?_⟩
     · intro j hj hk h1
       by_cases h2 : j = i
       · subst h2; have hl := hc13; exact Classical.byContradiction fun hne => by rw [dlt_same.2 hne] at hl; cases hl
       · exact hin_i j hj hk (by omega)
     · refine Le.al ?_
       simp only [List.forall_mem_cons]
       exact ⟨rfl, rfl, cnt (by omega), by simp⟩
   ·
    refine WP.exit ?_
    refine hK6 _ ?_
    refine wr ?_
    refine ua ?_
    refine u_nil ?_
    refine WP.ret ?_
    refine ret_ok rfl ?_ (by omega) (fun _ _ => rfl)
    -- ret 3
    refine congrArg D.bool ?_
    exact (sameDs_iff.2 (List.ext_getElem hab fun j h1 h2 => hin_i j h1 h2 (by omega))).symm
  ·
   simp
  ·
   refine Le.al ?_
   simp only [List.forall_mem_cons]
   exact ⟨rfl, rfl, rfl, by simp⟩

theorem fn8 : FnOk Tryz.prog 8 66 [4] (bodyOf Tryz.f8) := ⟨Tryz.f8, Tryz.func8, by kernel_rfl, by decide, by kernel_rfl, by kernel_rfl⟩
theorem s8 (a b : Etr) : PSpec Tryz.prog 8 [.d (encE a), .d (encE b)] (.d (.bool (sameE a b))) := by
 refine PSpec.of fn8 (by simp) fun o nk => ?_
 refine wr ?_
 refine u_step (g_box rfl fun o2 hb2 hk2 => ?_)
 refine u_step (g_box rfl fun o3 hb3 hk3 => ?_)
 have hb2_3 := (hk3 _ (by omega)).trans hb2
 refine ua ?_
 refine u_nil ?_
 refine wr ?_
 refine uf th28 th3 hb2_3 ?_
 refine ul th3 hb2_3 ?_
 refine uf th28 th3 hb3 ?_
 refine ul th3 hb3 ?_
 refine ub ?_
 refine um ?_
 apply gT
 · rfl
 · intro hg
   exact pf th28 th3 hb2_3
 apply gT
 · rfl
 · intro hg; try simp only [hg, ct]; try simp only [hg, ct, Bt]
   exact pl th3 hb2_3
 apply gT
 · rfl
 · intro hg
   exact pf th28 th3 hb3
 apply gT
 · rfl
 · intro hg; try simp only [hg, ct]; try simp only [hg, ct, Bt]
   exact pl th3 hb3
 apply gT
 · rfl
 · intro hg; try simp only [hg, ct]; try simp only [hg, ct, Bt]
   exact pb
 refine uA ?_
 refine um ?_
 apply gT
 · rfl
 · intro hg
   exact pf th28 th9 hb2_3
 apply gT
 · rfl
 · intro hg; try simp only [hg, ct]; try simp only [hg, ct, Bt]
   exact pl th9 hb2_3
 apply gT
 · rfl
 · intro hg
   exact pf th28 th9 hb3
 apply gT
 · rfl
 · intro hg; try simp only [hg, ct]; try simp only [hg, ct, Bt]
   exact pl th9 hb3
 apply gT
 · rfl
 · intro hg; try simp only [hg, ct]; try simp only [hg, ct, Bt]
   exact ps
 refine uA ?_
 refine um ?_
 apply gT
 · rfl
 · intro hg
   exact pf th28 th9 hb2_3
 apply gT
 · rfl
 · intro hg; try simp only [hg, ct]; try simp only [hg, ct, Bt]
   exact pl th9 hb2_3
 apply gT
 · rfl
 · intro hg
   exact pf th28 th9 hb3
 apply gT
 · rfl
 · intro hg; try simp only [hg, ct]; try simp only [hg, ct, Bt]
   exact pl th9 hb3
 apply gT
 · rfl
 · intro hg; try simp only [hg, ct]; try simp only [hg, ct, Bt]
   exact ps
 refine uA ?_
 refine um ?_
 apply gT
 · rfl
 · intro hg
   exact pf th28 th25 hb2_3
 apply gT
 · rfl
 · intro hg; try simp only [hg, ct]; try simp only [hg, ct, Bt]
   exact pg th25 hb2_3
 apply gT
 · rfl
 · intro hg
   exact pf th28 th25 hb3
 apply gT
 · rfl
 · intro hg; try simp only [hg, ct]; try simp only [hg, ct, Bt]
   exact pg th25 hb3
 apply gT
 · rfl
 · intro hg; try simp only [hg, ct]; try simp only [hg, ct, Bt]
   refine o_pcall (pvv (s27 a.id b.id)) rfl ⟨rfl, rfl, rfl⟩
 refine uA ?_
 refine um ?_
 apply gT
 · rfl
 · intro hg
   exact pf th28 th25 hb2_3
 apply gT
 · rfl
 · intro hg; try simp only [hg, ct]; try simp only [hg, ct, Bt]
   exact pg th25 hb2_3
 apply gT
 · rfl
 · intro hg
   exact pf th28 th25 hb3
 apply gT
 · rfl
 · intro hg; try simp only [hg, ct]; try simp only [hg, ct, Bt]
   exact pg th25 hb3
 apply gT
 · rfl
 · intro hg; try simp only [hg, ct]; try simp only [hg, ct, Bt]
   refine o_pcall (pvv (s27 a.doc b.doc)) rfl ⟨rfl, rfl, rfl⟩
 refine uA ?_
 refine um ?_
 apply gT
 · rfl
 · intro hg
   exact pf th28 th26 hb2_3
 apply gT
 · rfl
 · intro hg; try simp only [hg, ct]; try simp only [hg, ct, Bt]
   exact pl th26 hb2_3
 apply gT
 · rfl
 · intro hg
   exact pf th28 th26 hb3
 apply gT
 · rfl
 · intro hg; try simp only [hg, ct]; try simp only [hg, ct, Bt]
   exact pl th26 hb3
 apply gT
 · rfl
 · intro hg; try simp only [hg, ct]; try simp only [hg, ct, Bt]
   refine o_pcall (s28 a.deltas b.deltas) rfl ⟨rfl, rfl, rfl⟩
 refine uA ?_
 refine um ?_
 apply gT
 · rfl
 · intro hg
   exact pf th28 th3 hb2_3
 apply gT
 · rfl
 · intro hg; try simp only [hg, ct]; try simp only [hg, ct, Bt]
   exact pl th3 hb2_3
 apply gT
 · rfl
 · intro hg
   exact pf th28 th3 hb3
 apply gT
 · rfl
 · intro hg; try simp only [hg, ct]; try simp only [hg, ct, Bt]
   exact pl th3 hb3
 apply gT
 · rfl
 · intro hg; try simp only [hg, ct]; try simp only [hg, ct, Bt]
   exact pb
 refine uA ?_
 refine um ?_
 apply gT
 · rfl
 · intro hg
   exact pf th28 th3 hb2_3
 apply gT
 · rfl
 · intro hg; try simp only [hg, ct]; try simp only [hg, ct, Bt]
   exact pl th3 hb2_3
 apply gT
 · rfl
 · intro hg
   exact pf th28 th3 hb3
 apply gT
 · rfl
 · intro hg; try simp only [hg, ct]; try simp only [hg, ct, Bt]
   exact pl th3 hb3
 apply gT
 · rfl
 · intro hg; try simp only [hg, ct]; try simp only [hg, ct, Bt]
   exact pb
 refine uA ?_
 refine ua ?_
 refine u_nil ?_
 refine WP.ret ?_
 refine ret_ok rfl ?_ (by omega) (fun t ht => (hk3 t (by omega)).trans ((hk2 t (by omega))))
 -- ret 1
 skip
 refine congrArg D.bool ?_
 rw [Bool.eq_iff_iff, sameE_iff]
 simp only [Bool.and_eq_true, beq_iff_eq, decide_eq_true_eq, sameDs_iff, same_eq]
 grind

end Go.Proofs.YtfgampmhjfffdaaGreat.Abs

set_option linter.unusedVariables false
set_option linter.unusedSimpArgs false
set_option maxRecDepth 10000
namespace Go.Proofs.YtfgampmhjfffdaaGreat.Abs
open Go
structure OkF (f : Flt) : Prop where
  lo : -9223372036854775808 ≤ f.kinds
  hi : f.kinds ≤ 9223372036854775807

end Go.Proofs.YtfgampmhjfffdaaGreat.Abs

set_option linter.unusedVariables false
set_option linter.unusedSimpArgs false
set_option maxRecDepth 10000
namespace Go.Proofs.YtfgampmhjfffdaaGreat.Abs
open Go
theorem o_ia_G {P : Program} {Θ : Tab} {K : SV → (Nat → Option AO) → Nat → Prop} {sl : Nat → SV} {o : Nat → Option AO} {nk : Nat} {x ix : Operand} {t e : Nat} {α : Type} {i j : TI} {z : Nat} {xs : List α} {g : α → D} {k : IntKind} {m : Nat} (d0 : α) (hx : ev sl x = .d (.sl z (xs.map g))) (hy : ev sl ix = .d (.int k (m : Int))) (hi : Θ t = some i) (hk : i.k = .slice e) (hj : Θ e = some j) (hz : z = j.sz) (hlt : m < xs.length) (h : K (.el (g (xs.getD m d0))) o nk) : vOp P Θ (.indexAddr t x ix) ⟨sl, o, nk⟩ K := o_ia_mapG d0 hx hy hi hk hj hz hlt h
instance : Inhabited Dlt := ⟨⟨0, [], zeroV, 0⟩⟩

end Go.Proofs.YtfgampmhjfffdaaGreat.Abs

set_option linter.unusedVariables false
set_option linter.unusedSimpArgs false
set_option maxRecDepth 10000
namespace Go.Proofs.YtfgampmhjfffdaaGreat.Abs
open Go
mutual
/-- How many values there are, up to a bound. -/
def nodesN : Val → Nat → Nat
  | .mk _ _ _ xs ns, d => if 40 < d then 1048576 else nodesL xs d (1 + ns.length)
def nodesL : List Val → Nat → Nat → Nat
  | [], _, n => n
  | x :: xs, d, n => if n < 65536 then nodesL xs d (n + nodesN x (d + 1)) else n
end
mutual
theorem nodesN_le : ∀ (v : Val) (d : Nat), nodesN v d ≤ 1048576 * szV v
  | .mk k i t xs ns, d => by
    have h1 := nodesL_le xs d (1 + ns.length)
    have h2 := szN_len ns
    simp only [nodesN, szV]
    split <;> omega
theorem nodesL_le : ∀ (xs : List Val) (d n : Nat), nodesL xs d n ≤ n + 1048576 * szVs xs
  | [], _, n => by simp [nodesL, szVs]
  | x :: xs, d, n => by
    have h1 := nodesN_le x (d + 1)
    have h2 := nodesL_le xs d (n + nodesN x (d + 1))
    simp only [nodesL, szVs]
    split <;> omega
end
theorem nodesL_at {xs : List Val} {i d n : Nat} (h : i < xs.length) (hn : n < 65536) : nodesL (xs.drop i) d n = nodesL (xs.drop (i + 1)) d (n + nodesN (xs[i]'h) (d + 1)) := by
  rw [List.drop_eq_getElem_cons h, nodesL, if_pos hn]
theorem nodesL_full {xs : List Val} {i d n : Nat} (hi : i ≤ xs.length) (h : ¬ (i < xs.length ∧ n < 65536)) : nodesL (xs.drop i) d n = n := by
  by_cases hx : i < xs.length
  · rw [List.drop_eq_getElem_cons hx, nodesL, if_neg (by omega)]
  · have e : xs.drop i = [] := List.drop_eq_nil_of_le (by omega)
    rw [e, nodesL]
theorem wr_arg {P : Program} {f : FuncId} {x : SV} {m : Int} {c : Nat} {r : SV} (h : PSpec P f [x, .d (.int .i64 (c : Int))] r) (e : m = (c : Int)) : PSpec P f [x, .d (.int .i64 m)] r := by rw [e]; exact h
theorem ltN (k n : Nat) : decide ((k : Int) < (n : Int)) = decide (k < n) := by
  rw [Bool.eq_iff_iff]; simp only [decide_eq_true_eq]; omega
theorem lt50 (n : Nat) : decide ((50 : Int) < (n : Int)) = decide (50 < n) := ltN 50 n
def largeV (v : Val) : Bool := decide (3000 < nodesN v 0)
def largeD (l : List Dlt) : Bool := (l.take 70).any (fun d => largeV d.value || decide (50 < d.path.length)) || decide (100 < l.length)
def largeE (e : Etr) : Bool := largeV e.id || largeV e.doc || largeD e.deltas
theorem szVs_take : ∀ (xs : List Val) (i : Nat), szVs (xs.take i) ≤ szVs xs
  | [], i => by simp [szVs]
  | x :: xs, 0 => by simp [szVs]
  | x :: xs, i + 1 => by
    have := szVs_take xs i
    simp only [List.take_succ_cons, szVs]; omega
theorem szVs_snoc : ∀ {xs : List Val} {i : Nat} (h : i < xs.length), szVs (xs.take (i + 1)) = szVs (xs.take i) + szV (xs[i]'h)
  | x :: xs, 0, _ => by simp [szVs]
  | x :: xs, i + 1, h => by
    have := szVs_snoc (xs := xs) (i := i) (by simpa using h)
    simp only [List.take_succ_cons, szVs, this, List.getElem_cons_succ]; omega
theorem take70 {l : List Dlt} {p : Dlt → Bool} {i : Nat} (hi : i ≤ l.length) (h : ∀ (j : Nat) (hj : j < l.length), j < i → p l[j] = false) (he : ¬ (i < l.length ∧ i < 70)) : (l.take 70).any p = false := by
  rw [List.any_eq_false]
  intro x hx
  obtain ⟨j, hj, rfl⟩ := List.mem_iff_getElem.1 hx
  rw [List.getElem_take]
  simp at hj
  rw [h j (by omega) (by omega)]; simp
theorem take70t {l : List Dlt} {p : Dlt → Bool} {i : Nat} (hi : i < l.length) (h7 : i < 70) (hp : p (l[i]'hi) = true) : (l.take 70).any p = true :=
  List.any_eq_true.2 ⟨l[i], List.mem_iff_getElem.2 ⟨i, by simp; omega, by rw [List.getElem_take]⟩, hp⟩

theorem fn29 : FnOk Tryz.prog 29 35 [4] (bodyOf Tryz.f29) := ⟨Tryz.f29, Tryz.func29, by kernel_rfl, by decide, by kernel_rfl, by kernel_rfl⟩
theorem s29A (m : Nat) : ∀ (v : Val) (d : Nat), SizeOf.sizeOf v < m → szV v ≤ 1099511627776 → d ≤ 41 → PSpec Tryz.prog 29 [.d (encV v), .d (.int .i64 (d : Int))] (.d (.int .i64 (nodesN v d : Nat))) := by
 induction m with
 | zero => intros; omega
 | succ m ih =>
  rintro ⟨kd, it, tx, xs, ns⟩ d hv hsz hd
  have hsz2 : 1 + tx.length + szVs xs + szN ns ≤ 1099511627776 := hsz
  have hxl := szVs_len xs
  have hnl := szN_len ns
  have hln := encVs_length xs
  refine PSpec.of fn29 (by simp) fun o nk => ?_
  refine wr ?_
  refine u_step (g_box rfl fun o2 hb2 hk2 => ?_)
  refine ua ?_
  refine u_nil ?_
  refine WP.seq fun K3 hK3 => ?_
  refine wr ?_
  refine um ?_
  refine ub ?_
  refine u_nil ?_
  refine wc (fun hc5 => ?_) (fun hc5 => ?_) <;> try simp only [Q0, Q1, Q2, Q3, Q4, Q5, Q6, Q7, Q8, ge_iff_le, gt_iff_lt] at hc5
  ·
   refine wr ?_
   refine ua ?_
   refine u_nil ?_
   refine WP.ret ?_
   refine ret_ok rfl ?_ (by omega) (fun t ht => (hk2 t (by omega)))
   -- ret 1
   clear hK3
   refine congrArg (D.int .i64) ?_
   have hq : 40 < d := by have := hc5; (try simp at this); omega
   rw [nodesN, if_pos hq]; rfl
  ·
   have hd40 : ¬ 40 < d := by have := hc5; (try simp at this); omega
   refine WP.skip ?_
   refine hK3 _ ?_
   refine wr ?_
   refine uf th25 th23 hb2 ?_
   refine ul th23 hb2 ?_
   refine un th23 ?_
   refine ub ?_
   refine ua ?_
   refine u_nil ?_
   refine WP.seq fun K8 hK8 => ?_
   refine wr ?_
   refine ua ?_
   refine u_nil ?_
   refine WP.block ?_
   refine WP.loopL (ι := Nat × Nat) (fun ⟨i, n⟩ => ⟨al [(1, .d (.int .i64 (d : Int))), (2, .loc nk 0), (5, .d (.int .i64 (n : Nat))), (6, .d (.int .i64 i))], o2, (nk + 1)⟩) (fun ⟨i, n⟩ => i ≤ xs.length ∧ n ≤ 1 + ns.length + 1048576 * szVs (xs.take i) ∧ nodesL (xs.drop i) d n = nodesL xs d (1 + ns.length)) (fun ⟨i, n⟩ => xs.length - i) (fun ⟨i, n⟩ hA => ?_) ⟨0, 1 + ns.length⟩ ?_ ?_
   ·
    obtain ⟨hle, hnb, hnn⟩ := hA
    refine WP.seq fun K10 hK10 => ?_
    refine wr ?_
    refine um ?_
    refine uf th25 th22 hb2 ?_
    refine ul th22 hb2 ?_
    refine un th22 ?_
    refine ub ?_
    refine um ?_
    apply gT
    · rfl
    · intro hg
      exact pm
    apply gT
    · rfl
    · intro hg; try simp only [hg, ct]; try simp only [hg, ct, Bt]
      exact pb
    refine uA ?_
    refine u_nil ?_
    refine wc (fun hc12 => ?_) (fun hc12 => ?_) <;> try simp only [Q0, Q1, Q2, Q3, Q4, Q5, Q6, Q7, Q8, ge_iff_le, gt_iff_lt] at hc12
    ·
     have hin2 : i < xs.length ∧ n < 65536 := by have := hc12; (try simp [encVs_length] at this); omega
     refine WP.skip ?_
     refine hK10 _ ?_
     refine WP.seq fun K13 hK13 => ?_
     refine WP.block ?_
     refine WP.reg tabOk rfl ?_
     refine um ?_
     refine uf th25 th22 hb2 ?_
     refine ul th22 hb2 ?_
     refine um ?_
     first | refine u_step (o_ia_map rfl rfl th22 rfl th25 rfl (by omega) ?_) | refine u_step (o_ia_vs rfl rfl th22 rfl th25 rfl (by omega) ?_)
     refine uL th25 ?_
     refine um ?_
     refine ub ?_
     refine u_step (o_pcall (wr_arg (c := d + 1) (ih xs[i] (d + 1) (by exact items_lt' (by omega) hv) (by have := szVs_get (xs := xs) (j := i) (by omega); omega) (by omega)) (by rw [wrap_i64 (by omega) (by omega)]; omega)) rfl ?_)
     refine ub ?_
     refine ua ?_
     refine u_nil ?_
     refine hK13 _ ?_
     refine WP.reg tabOk rfl ?_
     refine um ?_
     refine ub ?_
     refine ua ?_
     refine u_nil ?_
     -- back
     have hb1 := nodesN_le xs[i] (d + 1)
     have hb2 := szVs_snoc (xs := xs) (i := i) (by omega)
     have hb3 := szVs_take xs (i + 1)
     refine ⟨⟨i + 1, n + nodesN xs[i] (d + 1)⟩, ⟨by omega, by omega, ?_⟩, by simp only; omega, ?_⟩
     · rw [← hnn, nodesL_at hin2.1 hin2.2]
     · refine Le.al ?_
       simp only [List.forall_mem_cons]
       exact ⟨rfl, rfl, add_w rfl (by omega), cnt (by omega), by simp⟩
    ·
     have hin2 : ¬ (i < xs.length ∧ n < 65536) := by have := hc12; (try simp [encVs_length] at this); omega
     refine WP.exit ?_
     refine hK8 _ ?_
     refine wr ?_
     refine um ?_
     refine ua ?_
     refine u_nil ?_
     refine WP.ret ?_
     refine ret_ok rfl ?_ (by omega) (fun t ht => (hk2 t (by omega)))
     -- ret 2
     clear hK3 hK8 hK10
     refine congrArg (D.int .i64) ?_
     rw [nodesN, if_neg hd40, ← hnn, nodesL_full hle hin2]
   ·
    exact ⟨by omega, by omega, rfl⟩
   ·
    refine Le.al ?_
    simp only [List.forall_mem_cons]
    refine ⟨rfl, rfl, ?_, rfl, by simp⟩
    have hw : IntKind.i64.wrap (1 + ((ns.map D.str).length : Int)) = ((1 + ns.length : Nat) : Int) := by rw [List.length_map, wrap_i64 (by omega) (by omega)]; omega
    rw [← hw]; rfl
theorem s29 (v : Val) (d : Nat) (hsz : szV v ≤ 1099511627776) (hd : d ≤ 41) : PSpec Tryz.prog 29 [.d (encV v), .d (.int .i64 (d : Int))] (.d (.int .i64 (nodesN v d : Nat))) := s29A _ v d (Nat.lt_succ_self _) hsz hd

theorem fn9 : FnOk Tryz.prog 9 6 [2] (bodyOf Tryz.f9) := ⟨Tryz.f9, Tryz.func9, by kernel_rfl, by decide, by kernel_rfl, by kernel_rfl⟩
theorem s9 (v : Val) (hsz : szV v ≤ 1099511627776) : PSpec Tryz.prog 9 [.d (encV v)] (.d (.bool (largeV v))) := by
 obtain ⟨kd, it, tx, xs, ns⟩ := v
 refine PSpec.of fn9 (by simp) fun o nk => ?_
 refine wr ?_
 refine u_step (g_box rfl fun o2 hb2 hk2 => ?_)
 refine ua ?_
 refine u_nil ?_
 refine wr ?_
 refine ug th25 hb2 ?_
 refine u_step (o_pcall (s29 (.mk kd it tx xs ns) 0 hsz (by omega)) rfl ?_)
 refine ub ?_
 refine ua ?_
 refine u_nil ?_
 refine WP.ret ?_
 refine ret_ok rfl ?_ (by omega) (fun t ht => (hk2 t (by omega)))
 -- ret 1
 refine congrArg D.bool ?_
 unfold largeV
 rw [Bool.eq_iff_iff]
 simp only [decide_eq_true_eq]
 omega

theorem fn10 : FnOk Tryz.prog 10 32 [2] (bodyOf Tryz.f10) := ⟨Tryz.f10, Tryz.func10, by kernel_rfl, by decide, by kernel_rfl, by kernel_rfl⟩
theorem s10 (l : List Dlt) (hl : ∀ d ∈ l, szV d.value ≤ 1099511627776) : PSpec Tryz.prog 10 [.d (.sl 8 (l.map encD))] (.d (.bool (largeD l))) := by
 refine PSpec.bd fun hbd => ?_
 have hx : l.length ≤ 9223372036854775807 := by simpa using hbd.1.1
 refine PSpec.of fn10 (by simp) fun o nk => ?_
 refine wr ?_
 refine ua ?_
 refine u_nil ?_
 refine WP.seq fun K2 hK2 => ?_
 refine wr ?_
 refine ua ?_
 refine u_nil ?_
 refine WP.block ?_
 refine WP.loopL (ι := Nat) (fun i => ⟨al [(0, .d (.sl 8 (l.map encD))), (3, .d (.int .i64 i))], o, nk⟩) (fun i => i ≤ l.length ∧ ∀ (j : Nat) (hj : j < l.length), j < i → (largeV l[j].value || decide (50 < l[j].path.length)) = false) (fun i => l.length - i) (fun i hA => ?_) 0 ?_ ?_
 ·
  obtain ⟨hle_i, hin_i⟩ := hA
  refine WP.seq fun K4 hK4 => ?_
  refine wr ?_
  refine um ?_
  refine um ?_
  refine un th26 ?_
  refine ub ?_
  refine um ?_
  apply gT
  · rfl
  · intro hg
    exact pm
  apply gT
  · rfl
  · intro hg; try simp only [hg, ct]; try simp only [hg, ct, Bt]
    exact pb
  refine uA ?_
  refine u_nil ?_
  refine wc (fun hc6 => ?_) (fun hc6 => ?_) <;> try simp only [Q0, Q1, Q2, Q3, Q4, Q5, Q6, Q7, Q8, ge_iff_le, gt_iff_lt] at hc6
  ·
   have hin2 : i < l.length ∧ i < 70 := by have := hc6; (try simp at this); omega
   have hil := hin2.1
   have hgd : l.getD i default = l[i] := by simp [hil]
   refine WP.skip ?_
   refine hK4 _ ?_
   refine WP.seq fun K7 hK7 => ?_
   refine WP.block ?_
   refine wr ?_
   refine um ?_
   refine um ?_
   refine u_step (o_ia_G (xs := l) default rfl rfl th26 rfl th53 rfl hin2.1 ?_)
   refine uF th53 th25 ?_
   refine uL th25 ?_
   refine u_step (o_pcall (pv (v := (l.getD i default).value) (s9 _ (by rw [hgd]; exact hl _ (List.getElem_mem _)))) rfl ?_)
   refine um ?_
   apply gF
   · rfl
   · intro hg
     exact pm
   apply gF
   · rfl
   · intro hg
     exact pm
   apply gF
   · rfl
   · intro hg; try simp only [hg, ct]; try simp only [hg, ct, Bt]
     refine o_ia_G (xs := l) default rfl rfl th26 rfl th53 rfl hin2.1 ⟨rfl, rfl, rfl⟩
   apply gF
   · rfl
   · intro hg; try simp only [hg, ct]; try simp only [hg, ct, Bt]
     exact pF th53 th23
   apply gF
   · rfl
   · intro hg; try simp only [hg, ct]; try simp only [hg, ct, Bt]
     exact pL th23
   apply gF
   · rfl
   · intro hg; try simp only [hg, ct]; try simp only [hg, ct, Bt]
     exact pn th23
   apply gF
   · rfl
   · intro hg; try simp only [hg, ct]; try simp only [hg, ct, Bt]
     exact pb
   refine uO ?_
   refine u_nil ?_
   refine wc (fun hc9 => ?_) (fun hc9 => ?_) <;> try simp only [Q0, Q1, Q2, Q3, Q4, Q5, Q6, Q7, Q8, ge_iff_le, gt_iff_lt] at hc9
   ·
    refine wr ?_
    refine ua ?_
    refine u_nil ?_
    refine WP.ret ?_
    refine ret_ok rfl ?_ (by omega) (fun _ _ => rfl)
    -- ret 1
    clear hK2 hK4 hK7
    refine congrArg D.bool ?_
    have hlq := hc9
    unfold largeD
    rw [take70t (p := fun d => largeV d.value || decide (50 < d.path.length)) hin2.1 hin2.2 (by rw [hgd] at hlq; simpa only [List.length_map, lt50] using hlq)]; rfl
   ·
    refine WP.skip ?_
    refine hK7 _ ?_
    refine WP.reg tabOk rfl ?_
    refine um ?_
    refine ub ?_
    refine ua ?_
    refine u_nil ?_
    -- back
    refine ⟨i + 1, ⟨by omega, ?_⟩, by omega, ?_⟩
    · intro j hj h1
      by_cases h2 : j = i
      · subst h2; have hlq := hc9; rw [hgd] at hlq; simpa only [List.length_map, lt50] using hlq
      · exact hin_i j hj (by omega)
    · refine Le.al ?_
      simp only [List.forall_mem_cons]
      exact ⟨rfl, cnt (by omega), by simp⟩
  ·
   have hin2 : ¬ (i < l.length ∧ i < 70) := by have := hc6; (try simp at this); omega
   refine WP.exit ?_
   refine hK2 _ ?_
   refine wr ?_
   refine um ?_
   refine un th26 ?_
   refine ub ?_
   refine ua ?_
   refine u_nil ?_
   refine WP.ret ?_
   refine ret_ok rfl ?_ (by omega) (fun _ _ => rfl)
   -- ret 2
   clear hK2 hK4
   refine congrArg D.bool ?_
   unfold largeD
   rw [take70 (p := fun d => largeV d.value || decide (50 < d.path.length)) hle_i hin_i hin2, Bool.eq_iff_iff]
   simp
   omega
 ·
  simp
 ·
  refine Le.al ?_
  simp only [List.forall_mem_cons]
  exact ⟨rfl, rfl, by simp⟩

theorem fn4 : FnOk Tryz.prog 4 16 [2] (bodyOf Tryz.f4) := ⟨Tryz.f4, Tryz.func4, by kernel_rfl, by decide, by kernel_rfl, by kernel_rfl⟩
theorem s4 (e : Etr) (ok : OkE e) (okd : ∀ d ∈ e.deltas, szV d.value ≤ 1099511627776) : PSpec Tryz.prog 4 [.d (encE e)] (.d (.bool (largeE e))) := by
 refine PSpec.of fn4 (by simp) fun o nk => ?_
 refine wr ?_
 refine u_step (g_box rfl fun o2 hb2 hk2 => ?_)
 refine ua ?_
 refine u_nil ?_
 refine wr ?_
 refine uf th28 th25 hb2 ?_
 refine ug th25 hb2 ?_
 refine u_step (o_pcall (pv (v := e.id) (s9 e.id ok.si)) rfl ?_)
 refine um ?_
 apply gF
 · rfl
 · intro hg
   exact pf th28 th25 hb2
 apply gF
 · rfl
 · intro hg; try simp only [hg, ct]; try simp only [hg, ct, Bt]
   exact pg th25 hb2
 apply gF
 · rfl
 · intro hg; try simp only [hg, ct]; try simp only [hg, ct, Bt]
   refine o_pcall (pv (v := e.doc) (s9 e.doc ok.sd)) rfl ⟨rfl, rfl, rfl⟩
 refine uO ?_
 refine um ?_
 apply gF
 · rfl
 · intro hg
   exact pf th28 th26 hb2
 apply gF
 · rfl
 · intro hg; try simp only [hg, ct]; try simp only [hg, ct, Bt]
   exact pl th26 hb2
 apply gF
 · rfl
 · intro hg; try simp only [hg, ct]; try simp only [hg, ct, Bt]
   refine o_pcall (s10 e.deltas okd) rfl ⟨rfl, rfl, rfl⟩
 refine uO ?_
 refine ua ?_
 refine u_nil ?_
 refine WP.ret ?_
 refine ret_ok rfl ?_ (by omega) (fun t ht => (hk2 t (by omega)))
 -- ret 1
 rfl

end Go.Proofs.YtfgampmhjfffdaaGreat.Abs

/- A run of the operations that is computed: tries, one operation. -/
set_option linter.unusedVariables false
set_option linter.unusedSimpArgs false
namespace Go.Proofs.YtfgampmhjfffdaaGreat.Abs
open Go

inductive TM (α : Type) where
  | e
  | n (v : Option α) (l r : TM α)
namespace TM
variable {α : Type}
def get : TM α → Nat → Option α
  | .e, _ => none
  | .n v _ _, 0 => v
  | .n _ l r, k + 1 => bif Nat.beq (k % 2) 0 then get l (k / 2) else get r (k / 2)
def seq {β : Type} (t : TM α) (k : TM α → β) : β := match t with
  | .e => k .e
  | .n v l r => k (.n v l r)
theorem seq_eq {β : Type} (t : TM α) (k : TM α → β) : seq t k = k t := by cases t <;> rfl
def put (v : Option α) : Nat → TM α → Nat → TM α
  | 0, t, _ => t
  | _ + 1, .e, 0 => .n v .e .e
  | _ + 1, .n _ l r, 0 => .n v l r
  | d + 1, .e, k + 1 => bif Nat.beq (k % 2) 0 then seq (put v d .e (k / 2)) fun l => .n none l .e else seq (put v d .e (k / 2)) fun r => .n none .e r
  | d + 1, .n u l r, k + 1 => bif Nat.beq (k % 2) 0 then seq (put v d l (k / 2)) fun l => .n u l r else seq (put v d r (k / 2)) fun r => .n u l r
theorem beq_cond {a b : Nat} {β : Type} (x y : β) : (bif Nat.beq a b then x else y) = if a = b then x else y := by
  by_cases h : a = b
  · subst h; simp
  · have : Nat.beq a b = false := by
      cases hb : Nat.beq a b with
      | false => rfl
      | true => exact absurd (Nat.eq_of_beq_eq_true hb) h
    rw [this, if_neg h]; rfl
theorem get_put (v : Option α) : ∀ (d : Nat) (t : TM α) (k i : Nat), k < d → (put v d t k).get i = if i = k then v else t.get i
  | 0, _, _, _, h => by omega
  | d + 1, .e, 0, i, _ => by
    cases i with
    | zero => simp [put, get]
    | succ i => simp only [put, get, beq_cond]; simp
  | d + 1, .n u l r, 0, i, _ => by
    cases i with
    | zero => simp [put, get]
    | succ i => simp only [put, get, beq_cond]; simp
  | d + 1, .e, k + 1, i, h => by
    have ih := get_put v d .e (k / 2)
    simp only [put, beq_cond, seq_eq]
    cases i with
    | zero => split <;> simp [get]
    | succ i =>
      split
      · simp only [get, beq_cond, ih _ (show k / 2 < d by omega)]
        split
        · by_cases hc : i / 2 = k / 2
          · rw [if_pos hc, if_pos (by omega)]
          · rw [if_neg hc, if_neg (by omega)]
        · rw [if_neg (by omega)]
      · simp only [get, beq_cond, ih _ (show k / 2 < d by omega)]
        split
        · rw [if_neg (by omega)]
        · by_cases hc : i / 2 = k / 2
          · rw [if_pos hc, if_pos (by omega)]
          · rw [if_neg hc, if_neg (by omega)]
  | d + 1, .n u l r, k + 1, i, h => by
    have ih1 := get_put v d l (k / 2)
    have ih2 := get_put v d r (k / 2)
    simp only [put, beq_cond, seq_eq]
    cases i with
    | zero => split <;> simp [get]
    | succ i =>
      split
      · simp only [get, beq_cond, ih1 _ (show k / 2 < d by omega)]
        split
        · by_cases hc : i / 2 = k / 2
          · rw [if_pos hc, if_pos (by omega)]
          · rw [if_neg hc, if_neg (by omega)]
        · rw [if_neg (by omega)]
      · simp only [get, beq_cond, ih2 _ (show k / 2 < d by omega)]
        split
        · rw [if_neg (by omega)]
        · by_cases hc : i / 2 = k / 2
          · rw [if_pos hc, if_pos (by omega)]
          · rw [if_neg hc, if_neg (by omega)]
def set (t : TM α) (k : Nat) (v : Option α) : TM α := put v (k + 1) t k
theorem get_set (t : TM α) (k : Nat) (v : Option α) : (t.set k v).get = upd t.get k v := by
  funext i
  unfold set upd
  exact get_put v _ t k i (by omega)
def mapT (f : α → α) : TM α → TM α
  | .e => .e
  | .n v l r => seq (mapT f l) fun l => seq (mapT f r) fun r => match v with
    | none => .n none l r
    | some x => .n (some (f x)) l r
theorem get_mapT (f : α → α) : ∀ (t : TM α) (i : Nat), (mapT f t).get i = (t.get i).map f
  | .e, i => rfl
  | .n v l r, i => by
    have h1 := get_mapT f l
    have h2 := get_mapT f r
    simp only [mapT, seq_eq]
    cases v <;> cases i with
    | zero => rfl
    | succ i => simp only [get, beq_cond]; split <;> simp [h1, h2]
def ofList (l : List α) : TM α := go l 0 .e
where go : List α → Nat → TM α → TM α
  | [], _, t => t
  | x :: l, i, t => go l (i + 1) (t.set i (some x))
theorem ofList_go : ∀ (l : List α) (k : Nat) (t : TM α) (i : Nat), (ofList.go l k t).get i = if k ≤ i ∧ i < k + l.length then l[i - k]? else t.get i
  | [], k, t, i => by simp only [ofList.go, List.length_nil]; rw [if_neg (by omega)]
  | x :: l, k, t, i => by
    simp only [ofList.go, ofList_go l, get_set, upd, List.length_cons]
    by_cases h1 : k + 1 ≤ i ∧ i < k + 1 + l.length
    · rw [if_pos h1, if_pos (by omega), show i - k = (i - (k + 1)) + 1 by omega, List.getElem?_cons_succ]
    · rw [if_neg h1]
      by_cases h2 : i = k
      · subst h2; rw [if_pos rfl, if_pos (by omega)]; simp
      · rw [if_neg h2, if_neg (by omega)]
theorem get_ofList (l : List α) (i : Nat) : (ofList l).get i = l[i]? := by
  unfold ofList
  rw [ofList_go]
  by_cases h : i < l.length
  · rw [if_pos (by omega)]; simp
  · rw [if_neg (by omega), List.getElem?_eq_none (by omega)]; rfl
end TM

/-- A state that is computed. -/
structure XS where
  sl : TM SV
  o : TM AO
  nk : Nat
def XS.st (s : XS) : St := ⟨fun u => (s.sl.get u).getD .any, s.o.get, s.nk⟩
abbrev XR := SV × TM AO × Nat

section
variable (Θ : Tab) (call : Nat → List SV → TM AO → Nat → Option XR)
def xbn (o : Nat → Option AO) (op : BinOp) (t : TypeId) (x y : SV) : Option D :=
  match x, y with
  | .d (.int k a), .d (.int k' b) => match op with
    | .shl => shBin .shl k a b
    | .shr => shBin .shr k a b
    | op => if k = k' then intBin op k a b else none
  | .d (.str a), .d (.str b) => strBin op a b
  | .d (.bool a), .d (.bool b) => match Θ t with
    | some i => match i.k with
      | .bool => match op with
        | .eql => some (.bool (a == b))
        | .neq => some (.bool (!(a == b)))
        | _ => none
      | _ => none
    | none => none
  | .d .nil, .d .nil => match Θ t with
    | some i => match i.k with
      | .slice _ => match op with
        | .eql => some (.bool true)
        | .neq => some (.bool false)
        | _ => none
      | _ => none
    | none => none
  | .d (.sl _ (_ :: _)), .d .nil => match Θ t with
    | some i => match i.k with
      | .slice _ => match op with
        | .eql => some (.bool false)
        | .neq => some (.bool true)
        | _ => none
      | _ => none
    | none => none
  | .d .nilp, .d .nilp => match Θ t with
    | some i => match i.k with
      | .ptr _ => match op with
        | .eql => some (.bool true)
        | .neq => some (.bool false)
        | _ => none
      | _ => none
    | none => none
  | .loc q _, .d .nilp => match Θ t with
    | some i => match i.k with
      | .ptr _ => match o q with
        | some (.box _) => match op with
          | .eql => some (.bool false)
          | .neq => some (.bool true)
          | _ => none
        | _ => none
      | _ => none
    | none => none
  | _, _ => none
theorem xbn_ok {o : Nat → Option AO} {op : BinOp} {t : TypeId} {x y : SV} {r : D} (h : xbn Θ o op t x y = some r) {K : SV → Prop} (hK : K (.d r)) : bnOp Θ o op t x y K := by
  unfold xbn at h
  split at h
  · split at h
    · exact ⟨r, h, hK⟩
    · exact ⟨r, h, hK⟩
    · split at h
      · rename_i he
        unfold bnOp
        simp only
        exact ⟨he, r, h, hK⟩
      · cases h
  · exact ⟨r, h, hK⟩
  all_goals (repeat' (split at h)) <;> first | (cases h; done) | (simp only [Option.some.injEq] at h; subst h; simp_all [bnOp])

def xld (o : Nat → Option AO) (t : TypeId) (x : SV) : Option SV :=
  match Θ t with
  | none => none
  | some i => match x with
    | .loc k f => match o k with
      | some (.box cs) => match i.k.agg with
        | true => match allD ((cs.drop f).take i.sz) with
          | some ds => if ds.length = i.sz ∧ ds.all D.leaf = true then some (.d (.agg ds)) else none
          | none => if ((cs.drop f).take i.sz).length = i.sz ∧ ((cs.drop f).take i.sz).all (oneC o) = true then some (.ag ((cs.drop f).take i.sz)) else none
        | false => cs[f]?
      | _ => none
    | .el x => if x.leaf = !i.k.agg ∧ x.width = i.sz then some (.d x) else none
    | _ => none
theorem xld_ok {o : Nat → Option AO} {t : TypeId} {x : SV} {r : SV} (h : xld Θ o t x = some r) {K : SV → Prop} (hK : K r) : ldOp Θ o t x K := by
  unfold xld at h
  split at h
  · cases h
  · rename_i i hi
    refine ⟨i, hi, ?_⟩
    split at h
    · split at h
      · rename_i cs hcs
        refine ⟨cs, hcs, ?_⟩
        split at h
        · rename_i ha
          rw [if_pos ha]
          split at h
          · rename_i ds hds
            split at h
            · rename_i hc
              simp only [Option.some.injEq] at h
              subst h
              exact .inl ⟨ds, hds, hc.1, hc.2, hK⟩
            · cases h
          · split at h
            · rename_i hc
              simp only [Option.some.injEq] at h
              subst h
              exact .inr ⟨hc.1, hc.2, hK⟩
            · cases h
        · rename_i ha
          rw [if_neg (by simp [ha])]
          exact ⟨r, h, hK⟩
      · cases h
    · split at h
      · rename_i hc
        simp only [Option.some.injEq] at h
        subst h
        exact ⟨hc.1, hc.2, hK⟩
      · cases h
    · cases h

def xst (o : TM AO) (t : TypeId) (x y : SV) : Option (TM AO) :=
  match Θ t with
  | none => none
  | some i => match y.cells o.get with
    | none => none
    | some ys => if ys.length = i.sz then match x with
      | .loc k f => match o.get k with
        | some (.box cs) => if f + ys.length ≤ cs.length then some (o.set k (some (.box (cs.take f ++ ys ++ cs.drop (f + ys.length))))) else none
        | _ => none
      | _ => none
      else none
theorem xst_ok {o : TM AO} {t : TypeId} {x y : SV} {r : TM AO} (h : xst Θ o t x y = some r) {K : (Nat → Option AO) → Prop} (hK : K r.get) : stOp Θ o.get t x y K := by
  unfold xst at h
  split at h
  · cases h
  · rename_i i hi
    split at h
    · cases h
    · rename_i ys hys
      split at h
      · rename_i hl
        refine ⟨i, ys, hi, hys, hl, ?_⟩
        split at h
        · split at h
          · rename_i cs hcs
            split at h
            · rename_i hle
              simp only [Option.some.injEq] at h
              subst h
              rw [TM.get_set] at hK
              exact ⟨cs, hcs, hle, hK⟩
            · cases h
          · cases h
        · cases h
      · cases h

def xfd (o : Nat → Option AO) (t : TypeId) (x : SV) (f : Nat) : Option SV :=
  match Θ t with
  | none => none
  | some i => match i.k with
    | .struct fs => match fs[f]? with
      | none => none
      | some (off, ft) => match Θ ft with
        | none => none
        | some j => if j.sz = 0 then none else match x with
          | .loc k g => match o k with
            | some (.box _) => some (.loc k (g + off))
            | _ => none
          | .el x => (x.sub off j.sz j.k.agg).map .el
          | .rel k q g => match o k with
            | some (.row _ _ _) => some (.rel k q (g + off))
            | _ => none
          | _ => none
    | _ => none
theorem xfd_ok {o : Nat → Option AO} {t : TypeId} {x : SV} {f : Nat} {r : SV} (h : xfd Θ o t x f = some r) {K : SV → Prop} (hK : K r) : fdOp Θ o t x f K := by
  unfold xfd at h
  split at h
  · cases h
  · rename_i i hi
    split at h
    · rename_i fs hk
      split at h
      · cases h
      · rename_i off ft hf
        split at h
        · cases h
        · rename_i j hj
          split at h
          · cases h
          · rename_i hz
            refine ⟨i, fs, off, ft, j, hi, hk, hf, hj, hz, ?_⟩
            split at h
            · split at h
              · rename_i cs hcs
                simp only [Option.some.injEq] at h
                subst h
                exact ⟨⟨_, hcs⟩, hK⟩
              · cases h
            · obtain ⟨y, h1, rfl⟩ := Option.map_eq_some_iff.1 h
              exact ⟨y, h1, hK⟩
            · split at h
              · rename_i e z xs hcs
                simp only [Option.some.injEq] at h
                subst h
                exact ⟨⟨_, _, _, hcs⟩, hK⟩
              · cases h
            · cases h
    · cases h

def xfv (t : TypeId) (x : SV) (f : Nat) : Option SV :=
  match Θ t with
  | none => none
  | some i => match i.k with
    | .struct fs => match fs[f]? with
      | none => none
      | some (off, ft) => match Θ ft with
        | none => none
        | some j => match x with
          | .d x => (x.sub off j.sz j.k.agg).map .d
          | _ => none
    | _ => none
theorem xfv_ok {t : TypeId} {x : SV} {f : Nat} {r : SV} (h : xfv Θ t x f = some r) {K : SV → Prop} (hK : K r) : fvOp Θ t x f K := by
  unfold xfv at h
  split at h
  · cases h
  · rename_i i hi
    split at h
    · rename_i fs hk
      split at h
      · cases h
      · rename_i off ft hf
        split at h
        · cases h
        · rename_i j hj
          refine ⟨i, fs, off, ft, j, hi, hk, hf, hj, ?_⟩
          split at h
          · obtain ⟨y, h1, rfl⟩ := Option.map_eq_some_iff.1 h
            exact ⟨y, h1, hK⟩
          · cases h
    · cases h

def xix (o : Nat → Option AO) (t : TypeId) (x ix : SV) : Option SV :=
  match Θ t with
  | none => none
  | some i => match ix with
    | .d (.int _ n) => if n < 0 then none else match i.k with
      | .slice e => match Θ e with
        | none => none
        | some j => match x with
          | .d (.sl z xs) => if z = j.sz then (xs[n.toNat]?).map .el else none
          | .row q => match o q with
            | some (.row _ z xs) => if z = j.sz ∧ n.toNat < xs.length then some (.rel q n.toNat 0) else none
            | _ => none
          | _ => none
      | .arr m e => match Θ e with
        | none => none
        | some j => match x with
          | .loc q f => match o q with
            | some (.box _) => if n.toNat < m then some (.loc q (f + n.toNat * j.sz)) else none
            | _ => none
          | _ => none
      | _ => none
    | _ => none
theorem xix_ok {o : Nat → Option AO} {t : TypeId} {x ix : SV} {r : SV} (h : xix Θ o t x ix = some r) {K : SV → Prop} (hK : K r) : ixOp Θ o t x ix K := by
  unfold xix at h
  split at h
  · cases h
  · rename_i i hi
    split at h
    · rename_i k n
      split at h
      · cases h
      · rename_i hn
        split at h
        · rename_i e hk
          split at h
          · cases h
          · rename_i j hj
            refine ⟨i, e, j, k, n, hi, .inl hk, hj, rfl, by omega, ?_⟩
            split at h
            · split at h
              · rename_i hz
                obtain ⟨y, h1, rfl⟩ := Option.map_eq_some_iff.1 h
                exact ⟨hk, hz, y, h1, hK⟩
              · cases h
            · split at h
              · split at h
                · rename_i hz
                  obtain ⟨rfl, hlt⟩ := hz
                  simp only [Option.some.injEq] at h
                  subst h
                  rename_i hq
                  exact ⟨hk, _, _, hq, hlt, hK⟩
                · cases h
              · cases h
            · cases h
        · rename_i m e hk
          split at h
          · cases h
          · rename_i j hj
            split at h
            · split at h
              · rename_i hq
                split at h
                · rename_i hlt
                  simp only [Option.some.injEq] at h
                  subst h
                  exact ⟨i, e, j, k, n, hi, .inr ⟨m, hk, hlt⟩, hj, rfl, by omega, ⟨m, hk⟩, ⟨_, hq⟩, hK⟩
                · cases h
              · cases h
            · cases h
        · cases h
    · cases h

def xco (o : Nat → Option AO) (src dst : TypeId) (x : SV) : Option SV :=
  match Θ src with
  | none => none
  | some i => match Θ dst with
    | none => none
    | some j => match x with
      | .d (.int _ n) => match j.k with
        | .int k' => some (.d (.int k' (k'.wrap n)))
        | .str => match i.k with
          | .int _ => some (.d (.str (Utf8.encode n).data.toList))
          | _ => none
        | _ => none
      | .d (.str b) => match i.k with
        | .str => match j.k with
          | .str => some (.d (.str b))
          | .slice e => match Θ e with
            | none => none
            | some je => match je.k with
              | .int .u8 => if b.length ≤ 9223372036854775807 then some (.d (.sl 1 (bytesD b))) else none
              | _ => none
          | _ => none
        | _ => none
      | x => match j.k with
        | .str => match i.k with
          | .slice e => match Θ e with
            | none => none
            | some je => match je.k with
              | .int .u8 => match srcOf o 1 x with
                | none => none
                | some ys => (byteL ys).map fun b => .d (.str b)
              | _ => none
          | _ => none
        | _ => none
theorem xco_ok {o : Nat → Option AO} {src dst : TypeId} {x : SV} {r : SV} (h : xco Θ o src dst x = some r) {K : SV → Prop} (hK : K r) : coOp Θ o src dst x K := by
  unfold xco at h
  split at h
  · cases h
  · rename_i i hi
    split at h
    · cases h
    · rename_i j hj
      refine ⟨i, j, hi, hj, ?_⟩
      split at h
      · split at h
        · rename_i k' hk
          simp only [Option.some.injEq] at h; subst h
          simp only [hk]; exact hK
        · rename_i hk
          split at h
          · rename_i q hq
            simp only [Option.some.injEq] at h; subst h
            simp only [hk]; exact ⟨⟨q, hq⟩, hK⟩
          · cases h
        · cases h
      · split at h
        · rename_i hi2
          refine ⟨hi2, ?_⟩
          split at h
          · rename_i hk
            simp only [Option.some.injEq] at h; subst h
            simp only [hk]; exact hK
          · rename_i e hk
            split at h
            · cases h
            · rename_i je he
              split at h
              · rename_i hje
                split at h
                · rename_i hle
                  simp only [Option.some.injEq] at h; subst h
                  simp only [hk]; exact ⟨⟨je, he, hje⟩, hle, hK⟩
                · cases h
              · cases h
          · cases h
        · cases h
      · rename_i x h1 h2
        split at h
        · rename_i hk
          split at h
          · rename_i e hik
            split at h
            · cases h
            · rename_i je he
              split at h
              · rename_i hje
                split at h
                · cases h
                · rename_i ys hys
                  obtain ⟨b, hb, rfl⟩ := Option.map_eq_some_iff.1 h
                  split
                  · rename_i a b; exact absurd rfl (h1 _ _)
                  · rename_i b; exact absurd rfl (h2 _)
                  · exact ⟨hk, ⟨e, je, hik, he, hje⟩, ys, b, hys, hb, hK⟩
              · cases h
          · cases h
        · cases h

theorem mxhi {hi mx : Option SV} (h : mx.isNone = true ∨ hi.isNone = false) : mx = none ∨ hi ≠ none := by cases mx <;> cases hi <;> simp_all
def xsl (o : TM AO) (nk : Nat) (t : TypeId) (x : SV) (lo hi mx : Option SV) : Option XR :=
  match Θ t with
  | none => none
  | some i => match x with
    | .d (.str b) => match i.k, mx with
      | .str, none => match bndO b.length b.length hi with
        | none => none
        | some h => match bndO h 0 lo with
          | none => none
          | some l => some (.d (.str ((b.take h).drop l)), o, nk)
      | _, _ => none
    | .d .nil => match i.k with
      | .slice e => match Θ e, mx, bndO 0 0 hi, bndO 0 0 lo with
        | some _, none, some 0, some 0 => some (.d .nil, o, nk)
        | _, _, _, _ => none
      | _ => none
    | .d (.sl z xs) => match i.k with
      | .slice e => match Θ e with
        | none => none
        | some j => if j.sz = z ∧ (mx.isNone = true ∨ hi.isNone = false) then match bndO xs.length xs.length mx with
          | none => none
          | some m => match bndO m m hi with
            | none => none
            | some h => match bndO h 0 lo with
              | none => none
              | some l => some (.d (.sl z ((xs.take h).drop l)), o, nk)
          else none
      | _ => none
    | .row q => match i.k with
      | .slice e => match Θ e with
        | none => none
        | some j => match o.get q, mx with
          | some (.row e' z xs), none => if e' = e ∧ z = j.sz then match bndO xs.length xs.length hi with
            | none => none
            | some h => match bndO h 0 lo with
              | some 0 => some (.row nk, (o.set q none).set nk (some (.row e j.sz (xs.take h))), nk + 1)
              | _ => none
            else none
          | _, _ => none
      | _ => none
    | _ => none
theorem xsl_ok {o : TM AO} {nk : Nat} {t : TypeId} {x : SV} {lo hi mx : Option SV} {r : SV} {o' : TM AO} {nk' : Nat} (h : xsl Θ o nk t x lo hi mx = some (r, o', nk')) {K : SV → (Nat → Option AO) → Nat → Prop} (hK : K r o'.get nk') : slOp Θ o.get nk t x lo hi mx K := by
  unfold xsl at h
  split at h
  · cases h
  · rename_i i hi'
    split at h
    · split at h
      · rename_i hk
        split at h
        · cases h
        · rename_i m hm
          split at h
          · cases h
          · rename_i l hl
            simp only [Option.some.injEq, Prod.mk.injEq] at h
            obtain ⟨rfl, rfl, rfl⟩ := h
            exact ⟨⟨i, hi', hk⟩, rfl, m, l, hm, hl, hK⟩
      · cases h
    · split at h
      · rename_i e hk
        split at h
        · rename_i j he h1 h2
          simp only [Option.some.injEq, Prod.mk.injEq] at h
          obtain ⟨rfl, rfl, rfl⟩ := h
          exact ⟨⟨i, e, j, hi', hk, he⟩, .inl rfl, rfl, h1, h2, hK⟩
        · cases h
      · cases h
    · split at h
      · rename_i e hk
        split at h
        · cases h
        · rename_i j hj
          split at h
          · rename_i hc
            split at h
            · cases h
            · rename_i m hm
              split at h
              · cases h
              · rename_i p hp
                split at h
                · cases h
                · rename_i l hl
                  simp only [Option.some.injEq, Prod.mk.injEq] at h
                  obtain ⟨rfl, rfl, rfl⟩ := h
                  exact ⟨⟨i, e, j, hi', hk, hj, hc.1⟩, mxhi hc.2, m, p, l, hm, hp, hl, hK⟩
          · cases h
      · cases h
    · split at h
      · rename_i e hk
        split at h
        · cases h
        · rename_i j hj
          split at h
          · rename_i hq
            split at h
            · rename_i hc
              obtain ⟨rfl, rfl⟩ := hc
              split at h
              · cases h
              · rename_i p hp
                split at h
                · rename_i hl
                  simp only [Option.some.injEq, Prod.mk.injEq] at h
                  obtain ⟨rfl, rfl, rfl⟩ := h
                  rw [TM.get_set, TM.get_set] at hK
                  exact ⟨i, _, j, _, p, hi', hk, hj, hq, rfl, hp, hl, hK⟩
                · cases h
            · cases h
          · cases h
      · cases h
    · cases h

def xbs (o : TM AO) (nk : Nat) (t : TypeId) (n : Nat) (parts : List (Nat × SV)) : Option XR :=
  match Θ t with
  | none => none
  | some i => match i.k with
    | .slice e => match Θ e with
      | none => none
      | some j => match j.z with
        | none => none
        | some l => if l.length = j.sz ∧ 0 < j.sz ∧ n * j.sz ≤ 16777216 then match partsL j.sz 0 parts with
          | none => none
          | some xs => if xs.length = n then
              if n = 0 then some (.row nk, o.set nk (some (.row e j.sz xs)), nk + 1) else some (.dx j.sz xs, o, nk)
            else none
          else none
    | _ => none
theorem xbs_ok {o : TM AO} {nk : Nat} {t : TypeId} {n : Nat} {parts : List (Nat × SV)} {r : SV} {o' : TM AO} {nk' : Nat} (h : xbs Θ o nk t n parts = some (r, o', nk')) {K : SV → (Nat → Option AO) → Nat → Prop} (hK : K r o'.get nk') : bsOp Θ o.get nk t n parts K := by
  unfold xbs at h
  split at h
  · cases h
  · rename_i i hi
    split at h
    · rename_i e hk
      split at h
      · cases h
      · rename_i j hj
        split at h
        · cases h
        · rename_i l hz
          split at h
          · rename_i hc
            split at h
            · cases h
            · rename_i xs hxs
              split at h
              · rename_i hn
                refine ⟨i, e, j, l, xs, hi, hk, hj, hz, hc.1, hc.2.1, hxs, hn, hc.2.2, ?_⟩
                split at h
                · rename_i h0
                  simp only [Option.some.injEq, Prod.mk.injEq] at h
                  obtain ⟨rfl, rfl, rfl⟩ := h
                  rw [if_pos h0]; rw [TM.get_set] at hK; exact hK
                · rename_i h0
                  simp only [Option.some.injEq, Prod.mk.injEq] at h
                  obtain ⟨rfl, rfl, rfl⟩ := h
                  rw [if_neg h0]; exact .inr hK
              · cases h
          · cases h
    · cases h

def xbu (t : TypeId) (parts : List (Nat × SV)) : Option SV :=
  match Θ t with
  | none => none
  | some i => match i.k with
    | .struct fs => match i.z with
      | none => none
      | some l => (fillL (placeOf Θ fs) l parts).map fun ds => .d (.agg ds)
    | _ => none
theorem xbu_ok {t : TypeId} {parts : List (Nat × SV)} {r : SV} (h : xbu Θ t parts = some r) {K : SV → Prop} (hK : K r) : buOp Θ t parts K := by
  unfold xbu at h
  split at h
  · cases h
  · rename_i i hi
    split at h
    · rename_i fs hk
      split at h
      · cases h
      · rename_i l hz
        obtain ⟨ds, hd, rfl⟩ := Option.map_eq_some_iff.1 h
        exact ⟨i, fs, l, ds, hi, hk, hz, hd, hK⟩
    · cases h

def isStr : TK → Bool
  | .str => true
  | _ => false
def isSl : TK → Bool
  | .slice _ => true
  | _ => false
theorem isStr_ok {k : TK} (h : isStr k = true) : k = .str := by cases k <;> simp_all [isStr]
theorem isSl_ok {k : TK} (h : isSl k = true) : ∃ e, k = .slice e := by cases k <;> simp_all [isSl]
def xle (o : Nat → Option AO) (ts : List TypeId) (x : SV) : Option SV :=
  match ts with
  | [t] => match Θ t with
    | none => none
    | some i => match (match x with
        | .d (.str _) => isStr i.k
        | _ => isSl i.k) with
      | true => (lenD o x).map fun (n : Nat) => SV.d (.int .i64 (n : Int))
      | false => none
  | _ => none
theorem xle_ok {o : Nat → Option AO} {ts : Array TypeId} {x : SV} {r : SV} (h : xle Θ o ts.toList x = some r) {K : SV → Prop} (hK : K r) : leOp Θ o ts x K := by
  unfold xle at h
  split at h
  · rename_i t ht
    have hts : ts = #[t] := by cases ts; simp_all
    split at h
    · cases h
    · rename_i i hi
      split at h
      · rename_i hc
        obtain ⟨n, hn, rfl⟩ := Option.map_eq_some_iff.1 h
        refine ⟨t, i, hts, hi, ?_, n, hn, hK⟩
        split at hc
        · exact isStr_ok hc
        · rename_i hx
          split
          · rename_i b; exact absurd rfl (hx b)
          · exact isSl_ok hc
      · cases h
  · cases h

def xap (o : TM AO) (nk : Nat) (ts : List TypeId) (x y : SV) : Option XR :=
  match ts with
  | [t, u] => match Θ t with
    | none => none
    | some i => match i.k with
      | .slice e => match Θ e with
        | none => none
        | some j => match j.z with
          | none => none
          | some l => match dstOf o.get e j.sz x with
            | none => none
            | some (q, xs) => match (match y with
                | .d (.str b) => match Θ u with
                  | none => none
                  | some v => match v.k, j.k, l with
                    | .str, .int .u8, [.int .u8 0] => if j.sz = 1 ∧ j.bys = 1 then some (b.map fun (c : UInt8) => D.int .u8 (c.toNat : Int)) else none
                    | _, _, _ => none
                | y => if u = t then srcOf o.get j.sz y else none) with
              | none => none
              | some ys => if l.length = j.sz ∧ 0 < j.sz ∧ xs.length + ys.length ≤ 9223372036854775807 ∧ (xs.length + ys.length) * j.bys ≤ 140737488355328 then
                  some (.row nk, (match q with
                    | none => o
                    | some t => o.set t none).set nk (some (.row e j.sz (xs ++ ys))), nk + 1)
                else none
      | _ => none
  | _ => none
theorem xap_ok {o : TM AO} {nk : Nat} {ts : Array TypeId} {x y : SV} {r : SV} {o' : TM AO} {nk' : Nat} (h : xap Θ o nk ts.toList x y = some (r, o', nk')) {K : SV → (Nat → Option AO) → Nat → Prop} (hK : K r o'.get nk') : apOp Θ o.get nk ts x y K := by
  unfold xap at h
  split at h
  · rename_i t u ht
    have hts : ts = #[t, u] := by cases ts; simp_all
    split at h
    · cases h
    · rename_i i hi
      split at h
      · rename_i e hk
        split at h
        · cases h
        · rename_i j hj
          split at h
          · cases h
          · rename_i l hz
            split at h
            · cases h
            · rename_i q xs hd
              split at h
              · cases h
              · rename_i ys hys
                split at h
                · rename_i hc
                  simp only [Option.some.injEq, Prod.mk.injEq] at h
                  obtain ⟨rfl, rfl, rfl⟩ := h
                  refine ⟨t, u, i, e, j, l, q, xs, ys, hts, hi, hk, hj, hz, hc.1, hc.2.1, hd, ?_, hc.2.2.1, hc.2.2.2, ?_⟩
                  · split at hys
                    · split at hys
                      · cases hys
                      · rename_i v hv
                        split at hys
                        · rename_i _ h1 h2
                          split at hys
                          · rename_i h4
                            simp only [Option.some.injEq] at hys
                            subst hys
                            exact ⟨⟨v, hv, h1⟩, h2, h4.1, h4.2, rfl, rfl⟩
                          · cases hys
                        · cases hys
                    · rename_i hx
                      split at hys
                      · rename_i hu
                        split
                        · rename_i b; exact absurd rfl (hx b)
                        · exact ⟨hu, hys⟩
                      · cases hys
                  · rw [TM.get_set] at hK
                    cases q with
                    | none => exact hK
                    | some q => rw [TM.get_set] at hK; exact hK
                · cases h
      · cases h
  · cases h

def xev (s : XS) : Operand → SV
  | .tmp t => match s.sl.get t with
    | some v => v
    | none => .any
  | .const v => cst v
  | .func f => .clo f [] []
  | .global _ => .any
theorem xev_eq (s : XS) (x : Operand) : xev s x = ev s.st.sl x := by
  cases x <;> simp only [xev, ev, XS.st]
  split <;> simp_all

/-- The letters that an iterator stands at. -/
def itAt : RO → Option (List UInt8 × Nat)
  | .ob (.stringIter b pos) => some (b.data.toList, pos)
  | _ => none
theorem itAt_ok {ob : RO} {l : List UInt8} {pos : Nat} (h : itAt ob = some (l, pos)) : ob = itOb l pos := by
  unfold itAt at h
  split at h
  · rename_i b p
    simp only [Option.some.injEq, Prod.mk.injEq] at h
    obtain ⟨rfl, rfl⟩ := h
    obtain ⟨⟨a⟩⟩ := b
    rfl
  · cases h

/-- One operation, computed. -/
def xOp0 (op : Op) (s : XS) : Option XR :=
  match op with
  | .move x => some (xev s x, s.o, s.nk)
  | .assign x => some (xev s x, s.o, s.nk)
  | .pick c x y => match xev s c with
    | .d (.bool true) => some (xev s x, s.o, s.nk)
    | .d (.bool false) => some (xev s y, s.o, s.nk)
    | _ => none
  | .alloc e => match Θ e with
    | none => none
    | some i => match i.z with
      | none => none
      | some l => some (.loc s.nk 0, s.o.set s.nk (some (.box (l.map .d))), s.nk + 1)
  | .box e x => match (xev s x).cells s.o.get with
    | none => none
    | some cs => some (.loc s.nk 0, s.o.set s.nk (some (.box cs)), s.nk + 1)
  | .build t parts => (xbu Θ t (parts.toList.map fun p => (p.1, xev s p.2))).map fun v => (v, s.o, s.nk)
  | .buildSlice t n parts => xbs Θ s.o s.nk t n (parts.toList.map fun p => (p.1, (xev s p.2)))
  | .load t x => (xld Θ s.o.get t (xev s x)).map fun v => (v, s.o, s.nk)
  | .store t x y => (xst Θ s.o t (xev s x) (xev s y)).map fun o' => (.any, o', s.nk)
  | .nilCheck x => match xev s x with
    | .loc k f => match s.o.get k with
      | some (.box _) => some (.loc k f, s.o, s.nk)
      | _ => none
    | .el x => some (.el x, s.o, s.nk)
    | .clo a b c => some (.clo a b c, s.o, s.nk)
    | _ => none
  | .binOp b t x y _ => (xbn Θ s.o.get b t (xev s x) (xev s y)).map fun v => (.d v, s.o, s.nk)
  | .unOp b _ x => (unOpD b (xev s x)).map fun v => (.d v, s.o, s.nk)
  | .convert src dst x => (xco Θ s.o.get src dst (xev s x)).map fun v => (v, s.o, s.nk)
  | .makeFunc fn fs cs => match fn with
    | .func f => some (.clo f (fs.toList.map (xev s)) (cs.toList.map (xev s)), s.o, s.nk)
    | _ => none
  | .slice t x lo hi mx => xsl Θ s.o s.nk t (xev s x) (lo.map (xev s)) (hi.map (xev s)) (mx.map (xev s))
  | .fieldAddr t x f => (xfd Θ s.o.get t (xev s x) f).map fun v => (v, s.o, s.nk)
  | .field t x f => (xfv Θ t (xev s x) f).map fun v => (v, s.o, s.nk)
  | .indexAddr t x ix => (xix Θ s.o.get t (xev s x) (xev s ix)).map fun v => (v, s.o, s.nk)
  | .index t x ix => match Θ t with
    | none => none
    | some i => match i.k, xev s x, xev s ix with
      | .str, .d (.str l), .d (.int _ n) => if 0 ≤ n ∧ n.toNat < l.length then some (.d (.int .u8 (bAt l n.toNat)), s.o, s.nk) else none
      | _, _, _ => none
  | .extract x q => match xev s x with
    | .tup xs => (xs[q]?).map fun c => (c, s.o, s.nk)
    | _ => none
  | .call c => match c.callee with
    | .builtin b => match b, c.args.toList with
      | .len, [x] => (xle Θ s.o.get c.argTypes.toList (xev s x)).map fun v => (v, s.o, s.nk)
      | .append, [x, y] => xap Θ s.o s.nk c.argTypes.toList (xev s x) (xev s y)
      | .max, [x, y] => (mmD true (xev s x) (xev s y)).map fun v => (.d v, s.o, s.nk)
      | .min, [x, y] => (mmD false (xev s x) (xev s y)).map fun v => (.d v, s.o, s.nk)
      | _, _ => none
    | .value x => match xev s x with
      | .clo f fs cs => call f (fs ++ c.args.toList.map (xev s) ++ cs) s.o s.nk
      | _ => none
    | _ => none
  | .range t x => match Θ t with
    | none => none
    | some i => match i.k, xev s x with
      | .str, .d (.str l) => some (.raw s.nk, s.o.set s.nk (some (.raw (itOb l 0))), s.nk + 1)
      | _, _ => none
  | .next x true => match xev s x with
    | .raw k => match s.o.get k with
      | some (.raw ob) => match itAt ob with
        | none => none
        | some (l, pos) => if pos < l.length then some (.tup [.d (.bool true), .d (.int .i64 pos), .d (.int .i32 (Utf8.decode ⟨l.toArray⟩ pos).1)], s.o.set k (some (.raw (itOb l (pos + (Utf8.decode ⟨l.toArray⟩ pos).2)))), s.nk)
            else some (.tup [.d (.bool false)], s.o, s.nk)
      | _ => none
    | _ => none
  | _ => none
end
theorem xOp0_ok {P : Program} {Θ : Tab} {call : Nat → List SV → TM AO → Nat → Option XR} (hc : ∀ f asx o nk r o' nk', call f asx o nk = some (r, o', nk') → Spec P f asx o.get nk fun r2 o2 n2 => r2 = r ∧ o2 = o'.get ∧ n2 = nk')
    {op : Op} {s : XS} {r : SV} {o' : TM AO} {nk' : Nat} (h : xOp0 Θ call op s = some (r, o', nk')) {K : SV → (Nat → Option AO) → Nat → Prop} (hK : K r o'.get nk') : vOp0 P Θ op s.st K := by
  have hev : ∀ x, xev s x = ev s.st.sl x := xev_eq s
  have hev2 : xev s = ev s.st.sl := funext hev
  have ho : s.st.o = s.o.get := rfl
  have hn : s.st.nk = s.nk := rfl
  have mp : ∀ {α : Type} {x : Option α} {f : α → XR}, x.map f = some (r, o', nk') → ∃ v, x = some v ∧ f v = (r, o', nk') := fun h => by simpa using h
  unfold xOp0 at h
  simp only [hev2] at h
  cases op with
  | move x => simp only [Option.some.injEq, Prod.mk.injEq] at h; obtain ⟨rfl, rfl, rfl⟩ := h; exact hK
  | assign x => simp only [Option.some.injEq, Prod.mk.injEq] at h; obtain ⟨rfl, rfl, rfl⟩ := h; exact hK
  | pick c x y =>
    simp only at h
    split at h
    · rename_i hb
      simp only [Option.some.injEq, Prod.mk.injEq] at h; obtain ⟨rfl, rfl, rfl⟩ := h
      exact ⟨true, hb, hK⟩
    · rename_i hb
      simp only [Option.some.injEq, Prod.mk.injEq] at h; obtain ⟨rfl, rfl, rfl⟩ := h
      exact ⟨false, hb, hK⟩
    · cases h
  | alloc e =>
    simp only at h
    split at h
    · cases h
    · rename_i i hi
      split at h
      · cases h
      · rename_i l hz
        simp only [Option.some.injEq, Prod.mk.injEq] at h; obtain ⟨rfl, rfl, rfl⟩ := h
        rw [TM.get_set] at hK
        exact ⟨i, l, hi, hz, hK⟩
  | box e x =>
    simp only at h
    split at h
    · cases h
    · rename_i cs hcs
      simp only [Option.some.injEq, Prod.mk.injEq] at h; obtain ⟨rfl, rfl, rfl⟩ := h
      rw [TM.get_set] at hK
      exact ⟨cs, hcs, hK⟩
  | build t parts =>
    simp only at h
    obtain ⟨v, h1, h2⟩ := mp h
    simp only [Prod.mk.injEq] at h2; obtain ⟨rfl, rfl, rfl⟩ := h2
    exact xbu_ok Θ h1 (K := fun v => K v s.st.o s.st.nk) hK
  | buildSlice t n parts => exact xbs_ok Θ h hK
  | load t x =>
    simp only at h
    obtain ⟨v, h1, h2⟩ := mp h
    simp only [Prod.mk.injEq] at h2; obtain ⟨rfl, rfl, rfl⟩ := h2
    exact xld_ok Θ h1 (K := fun v => K v s.st.o s.st.nk) hK
  | store t x y =>
    simp only at h
    obtain ⟨v, h1, h2⟩ := mp h
    simp only [Prod.mk.injEq] at h2; obtain ⟨rfl, rfl, rfl⟩ := h2
    exact xst_ok Θ h1 (K := fun o' => K .any o' s.st.nk) hK
  | nilCheck x =>
    simp only at h
    split at h
    · rename_i k f hx
      split at h
      · rename_i cs hcs
        simp only [Option.some.injEq, Prod.mk.injEq] at h; obtain ⟨rfl, rfl, rfl⟩ := h
        exact ⟨by rw [hx]; exact ⟨_, hcs⟩, by rw [hx]; exact hK⟩
      · cases h
    · rename_i y hx
      simp only [Option.some.injEq, Prod.mk.injEq] at h; obtain ⟨rfl, rfl, rfl⟩ := h
      exact ⟨by rw [hx]; trivial, by rw [hx]; exact hK⟩
    · rename_i a b c hx
      simp only [Option.some.injEq, Prod.mk.injEq] at h; obtain ⟨rfl, rfl, rfl⟩ := h
      exact ⟨by rw [hx]; trivial, by rw [hx]; exact hK⟩
    · cases h
  | binOp b t x y u =>
    simp only at h
    obtain ⟨v, h1, h2⟩ := mp h
    simp only [Prod.mk.injEq] at h2; obtain ⟨rfl, rfl, rfl⟩ := h2
    exact xbn_ok Θ h1 (K := fun v => K v s.st.o s.st.nk) hK
  | unOp b t x =>
    simp only at h
    obtain ⟨v, h1, h2⟩ := mp h
    simp only [Prod.mk.injEq] at h2; obtain ⟨rfl, rfl, rfl⟩ := h2
    exact ⟨v, h1, hK⟩
  | convert src dst x =>
    simp only at h
    obtain ⟨v, h1, h2⟩ := mp h
    simp only [Prod.mk.injEq] at h2; obtain ⟨rfl, rfl, rfl⟩ := h2
    exact xco_ok Θ h1 (K := fun v => K v s.st.o s.st.nk) hK
  | makeFunc fn fs cs =>
    cases fn with
    | func f =>
      simp only [Option.some.injEq, Prod.mk.injEq] at h; obtain ⟨rfl, rfl, rfl⟩ := h
      exact hK
    | _ => cases h
  | slice t x lo hi mx => exact xsl_ok Θ h hK
  | fieldAddr t x f =>
    simp only at h
    obtain ⟨v, h1, h2⟩ := mp h
    simp only [Prod.mk.injEq] at h2; obtain ⟨rfl, rfl, rfl⟩ := h2
    exact xfd_ok Θ h1 (K := fun v => K v s.st.o s.st.nk) hK
  | field t x f =>
    simp only at h
    obtain ⟨v, h1, h2⟩ := mp h
    simp only [Prod.mk.injEq] at h2; obtain ⟨rfl, rfl, rfl⟩ := h2
    exact xfv_ok Θ h1 (K := fun v => K v s.st.o s.st.nk) hK
  | indexAddr t x ix =>
    simp only at h
    obtain ⟨v, h1, h2⟩ := mp h
    simp only [Prod.mk.injEq] at h2; obtain ⟨rfl, rfl, rfl⟩ := h2
    exact xix_ok Θ h1 (K := fun v => K v s.st.o s.st.nk) hK
  | index t x ix =>
    simp only at h
    split at h
    · cases h
    · rename_i i hi
      split at h
      · rename_i h1 h2 h3
        split at h
        · rename_i hb
          simp only [Option.some.injEq, Prod.mk.injEq] at h; obtain ⟨rfl, rfl, rfl⟩ := h
          exact ⟨i, _, _, _, hi, h1, h2, h3, hb.1, hb.2, hK⟩
        · cases h
      · cases h
  | extract x q =>
    simp only at h
    split at h
    · rename_i xs hx
      obtain ⟨v, h1, h2⟩ := mp h
      simp only [Prod.mk.injEq] at h2; obtain ⟨rfl, rfl, rfl⟩ := h2
      exact ⟨xs, _, hx, h1, hK⟩
    · cases h
  | call c =>
    obtain ⟨callee, asx, ts⟩ := c
    simp only at h
    cases callee with
    | builtin b =>
      simp only at h
      show blOp Θ s.st b ts asx.toList K
      split at h
      · rename_i x hx
        obtain ⟨v, h1, h2⟩ := mp h
        simp only [Prod.mk.injEq] at h2; obtain ⟨rfl, rfl, rfl⟩ := h2
        rw [hx]
        exact xle_ok Θ h1 (K := fun v => K v s.st.o s.st.nk) hK
      · rename_i x y hx
        rw [hx]
        exact xap_ok Θ h hK
      · rename_i x y hx
        obtain ⟨v, h1, h2⟩ := mp h
        simp only [Prod.mk.injEq] at h2; obtain ⟨rfl, rfl, rfl⟩ := h2
        rw [hx]
        exact ⟨v, h1, hK⟩
      · rename_i x y hx
        obtain ⟨v, h1, h2⟩ := mp h
        simp only [Prod.mk.injEq] at h2; obtain ⟨rfl, rfl, rfl⟩ := h2
        rw [hx]
        exact ⟨v, h1, hK⟩
      · cases h
    | value x =>
      simp only at h
      split at h
      · rename_i f fs cs hx
        refine ⟨f, fs, cs, hx, ?_⟩
        exact (hc _ _ _ _ _ _ _ h).mono (by rintro r2 o2 n2 ⟨rfl, rfl, rfl⟩; exact hK)
      · cases h
    | _ => cases h
  | range t x =>
    simp only at h
    split at h
    · cases h
    · rename_i i hi
      split at h
      · rename_i h1 h2
        simp only [Option.some.injEq, Prod.mk.injEq] at h; obtain ⟨rfl, rfl, rfl⟩ := h
        rw [TM.get_set] at hK
        exact ⟨i, _, hi, h1, h2, hK⟩
      · cases h
  | next x b =>
    cases b with
    | false => cases h
    | true =>
      simp only at h
      split at h
      · rename_i k hx
        split at h
        · rename_i ob hq
          split at h
          · cases h
          · rename_i l pos hit
            have hob := itAt_ok hit
            subst hob
            split at h
            · rename_i hlt
              simp only [Option.some.injEq, Prod.mk.injEq] at h; obtain ⟨rfl, rfl, rfl⟩ := h
              rw [TM.get_set] at hK
              refine ⟨rfl, k, l, pos, hx, hq, ?_⟩
              rw [if_pos hlt]; exact hK
            · rename_i hlt
              simp only [Option.some.injEq, Prod.mk.injEq] at h; obtain ⟨rfl, rfl, rfl⟩ := h
              refine ⟨rfl, k, l, pos, hx, hq, ?_⟩
              rw [if_neg hlt]; exact hK
        · cases h
      · cases h
  | _ => cases h
def setO2 (o : TM AO) : List (Nat × Option AO) → TM AO
  | [] => o
  | (k, x) :: r => setO2 (o.set k x) r
theorem setO2_get : ∀ (l : List (Nat × Option AO)) (o : TM AO), (setO2 o l).get = upds o.get l
  | [], o => rfl
  | (k, x) :: r, o => by rw [setO2, setO2_get r, TM.get_set]; rfl
/-- One operation, computed. -/
def xOp (Θ : Tab) (call : Nat → List SV → TM AO → Nat → Option XR) (op : Op) (s : XS) : Option XR :=
  match nQ Θ op (xev s) s.o.get with
  | some v => some (v, s.o, s.nk)
  | none => match nW0 Θ op (xev s) s.o.get s.nk with
    | some (v, l, nk') => some (v, setO2 s.o l, nk')
    | none => match xOp0 Θ call op s with
      | some r => some r
      | none => match nWF Θ op (xev s) s.o.get s.nk op.operands.toList with
        | some (v, l, nk') => some (v, setO2 s.o l, nk')
        | none => none
theorem xOp_ok {P : Program} {Θ : Tab} {call : Nat → List SV → TM AO → Nat → Option XR} (hc : ∀ f asx o nk r o' nk', call f asx o nk = some (r, o', nk') → Spec P f asx o.get nk fun r2 o2 n2 => r2 = r ∧ o2 = o'.get ∧ n2 = nk')
    {op : Op} {s : XS} {r : SV} {o' : TM AO} {nk' : Nat} (h : xOp Θ call op s = some (r, o', nk')) {K : SV → (Nat → Option AO) → Nat → Prop} (hK : K r o'.get nk') : vOp P Θ op s.st K := by
  have hev : xev s = ev s.st.sl := funext (xev_eq s)
  unfold xOp at h
  rw [hev] at h
  split at h
  · rename_i v hv
    simp only [Option.some.injEq, Prod.mk.injEq] at h
    obtain ⟨rfl, rfl, rfl⟩ := h
    exact .inr (.inl ⟨_, hv, hK⟩)
  · split at h
    · rename_i v l nk2 hv
      simp only [Option.some.injEq, Prod.mk.injEq] at h
      obtain ⟨rfl, rfl, rfl⟩ := h
      refine .inr (.inr ⟨_, nW_of0 hv, ?_⟩)
      rw [setO2_get] at hK
      exact hK
    · rename_i hn
      split at h
      · rename_i r0 h0
        simp only [Option.some.injEq] at h
        subst h
        exact .inl (xOp0_ok hc h0 hK)
      · split at h
        · rename_i v l nk2 hv
          simp only [Option.some.injEq, Prod.mk.injEq] at h
          obtain ⟨rfl, rfl, rfl⟩ := h
          refine .inr (.inr ⟨_, nW_ofF hn hv, ?_⟩)
          rw [setO2_get] at hK
          exact hK
        · cases h
end Go.Proofs.YtfgampmhjfffdaaGreat.Abs

/- A run of code that is computed: regions, loops, calls; rows are frozen where their elements are read. -/
set_option linter.unusedVariables false
set_option linter.unusedSimpArgs false
namespace Go.Proofs.YtfgampmhjfffdaaGreat.Abs
open Go

mutual
def D.eqb : D → D → Bool
  | .int k n, .int k2 n2 => decide (k = k2) && decide (n = n2)
  | .bool a, .bool b => a == b
  | .str s, .str t => decide (s = t)
  | .sl z xs, .sl z2 ys => decide (z = z2) && D.eqbs xs ys
  | .agg xs, .agg ys => D.eqbs xs ys
  | .nilp, .nilp => true
  | .nil, .nil => true
  | .nilk a, .nilk b => decide (a = b)
  | _, _ => false
def D.eqbs : List D → List D → Bool
  | [], [] => true
  | x :: xs, y :: ys => D.eqb x y && D.eqbs xs ys
  | _, _ => false
end
mutual
theorem D.eqb_ok : ∀ x y : D, D.eqb x y = true → x = y
  | .int k n, y, h => by cases y <;> simp [D.eqb] at h; obtain ⟨rfl, rfl⟩ := h; rfl
  | .bool a, y, h => by cases y <;> simp [D.eqb] at h; subst h; rfl
  | .str s, y, h => by cases y <;> simp [D.eqb] at h; subst h; rfl
  | .sl z xs, y, h => by
    cases y <;> simp [D.eqb] at h
    obtain ⟨rfl, h⟩ := h
    rw [D.eqbs_ok xs _ h]
  | .agg xs, y, h => by
    cases y <;> simp [D.eqb] at h
    rw [D.eqbs_ok xs _ h]
  | .nilp, y, h => by cases y <;> simp [D.eqb] at h; rfl
  | .nil, y, h => by cases y <;> simp [D.eqb] at h; rfl
  | .nilk k, y, h => by cases y <;> simp [D.eqb] at h; subst h; rfl
theorem D.eqbs_ok : ∀ xs ys : List D, D.eqbs xs ys = true → xs = ys
  | [], [], _ => rfl
  | [], y :: ys, h => by simp [D.eqbs] at h
  | x :: xs, [], h => by simp [D.eqbs] at h
  | x :: xs, y :: ys, h => by
    simp only [D.eqbs, Bool.and_eq_true] at h
    rw [D.eqb_ok x y h.1, D.eqbs_ok xs ys h.2]
end
mutual
def SV.eqb : SV → SV → Bool
  | .d x, .d y => D.eqb x y
  | .loc a1 b1, .loc a2 b2 => decide (a1 = a2) && decide (b1 = b2)
  | .row a1, .row a2 => decide (a1 = a2)
  | .el x, .el y => D.eqb x y
  | .rel a1 b1 c1, .rel a2 b2 c2 => decide (a1 = a2) && decide (b1 = b2) && decide (c1 = c2)
  | .raw a1, .raw a2 => decide (a1 = a2)
  | .view a1 b1 c1 e1, .view a2 b2 c2 e2 => decide (a1 = a2) && decide (b1 = b2) && decide (c1 = c2) && decide (e1 = e2)
  | .dx z xs, .dx z2 ys => decide (z = z2) && D.eqbs xs ys
  | .tup xs, .tup ys => SV.eqbs xs ys
  | .ag xs, .ag ys => SV.eqbs xs ys
  | .clo f a b, .clo g a2 b2 => decide (f = g) && SV.eqbs a a2 && SV.eqbs b b2
  | .any, .any => true
  | _, _ => false
def SV.eqbs : List SV → List SV → Bool
  | [], [] => true
  | x :: xs, y :: ys => SV.eqb x y && SV.eqbs xs ys
  | _, _ => false
end
mutual
theorem SV.eqb_ok : ∀ {x y : SV}, SV.eqb x y = true → x = y
  | .d x, y, h => by cases y <;> simp [SV.eqb] at h; rw [D.eqb_ok _ _ h]
  | .loc a b, y, h => by cases y <;> simp [SV.eqb] at h; obtain ⟨rfl, rfl⟩ := h; rfl
  | .row a, y, h => by cases y <;> simp [SV.eqb] at h; subst h; rfl
  | .el x, y, h => by cases y <;> simp [SV.eqb] at h; rw [D.eqb_ok _ _ h]
  | .rel a b c, y, h => by cases y <;> simp [SV.eqb] at h; obtain ⟨⟨rfl, rfl⟩, rfl⟩ := h; rfl
  | .raw a, y, h => by cases y <;> simp [SV.eqb] at h; subst h; rfl
  | .view a b c e, y, h => by cases y <;> simp [SV.eqb] at h; obtain ⟨⟨⟨rfl, rfl⟩, rfl⟩, rfl⟩ := h; rfl
  | .dx z xs, y, h => by cases y <;> simp [SV.eqb] at h; obtain ⟨rfl, h⟩ := h; rw [D.eqbs_ok _ _ h]
  | .tup xs, y, h => by cases y <;> simp [SV.eqb] at h; rw [SV.eqbs_ok h]
  | .ag xs, y, h => by cases y <;> simp [SV.eqb] at h; rw [SV.eqbs_ok h]
  | .clo f a b, y, h => by cases y <;> simp [SV.eqb] at h; obtain ⟨⟨rfl, h1⟩, h2⟩ := h; rw [SV.eqbs_ok h1, SV.eqbs_ok h2]
  | .any, y, h => by cases y <;> first | rfl | (simp [SV.eqb] at h)
theorem SV.eqbs_ok : ∀ {xs ys : List SV}, SV.eqbs xs ys = true → xs = ys
  | [], [], _ => rfl
  | [], y :: ys, h => by simp [SV.eqbs] at h
  | x :: xs, [], h => by simp [SV.eqbs] at h
  | x :: xs, y :: ys, h => by
    simp only [SV.eqbs, Bool.and_eq_true] at h
    rw [SV.eqb_ok h.1, SV.eqbs_ok h.2]
end

/-! ### rows that are frozen -/
def XS.frz (s : XS) (t : Nat) : XS :=
  match s.o.get t with
  | some (.row _ z xs) => ⟨s.sl.mapT (SV.frz t (.sl z xs)), (s.o.mapT (AO.frz t (.sl z xs))).set t none, s.nk⟩
  | _ => s
theorem XS.frz_ok {E : Ent} {s : XS} {a : Act} {w : World} (t : Nat) (h : Rel E s.st a w) : Rel E (s.frz t).st a w := by
  unfold XS.frz
  split
  · rename_i e z xs ht
    have := h.freezeA 0 (t := t) (e := e) (z := z) (xs := xs) ht
    have e1 : (XS.st ⟨s.sl.mapT (SV.frz t (.sl z xs)), (s.o.mapT (AO.frz t (.sl z xs))).set t none, s.nk⟩) = { sl := fun u => (s.st.sl u).frz t (.sl z xs), o := frzo 0 s.st.o t (.sl z xs), nk := s.st.nk } := by
      simp only [XS.st, St.mk.injEq, and_true]
      constructor
      · funext u
        rw [TM.get_mapT]
        cases s.sl.get u <;> rfl
      · rw [TM.get_set]
        funext u
        simp only [upd, frzo, TM.get_mapT]
        split
        · rfl
        · simp
    rw [e1]; exact this
  · exact h
def XS.frzs (s : XS) : List Nat → XS
  | [] => s
  | t :: r => (s.frz t).frzs r
theorem XS.frzs_ok {E : Ent} {a : Act} {w : World} : ∀ (l : List Nat) {s : XS}, Rel E s.st a w → Rel E (s.frzs l).st a w
  | [], s, h => h
  | t :: r, s, h => frzs_ok r (s.frz_ok t h)
/-- Rows that a value tells of. -/
def rowsV : SV → List Nat
  | .row t => [t]
  | .rel t _ _ => [t]
  | .view t _ _ _ => [t]
  | _ => []
def rowsL : List SV → List Nat
  | [] => []
  | c :: r => rowsV c ++ rowsL r
def rowsO (o : TM AO) : SV → List Nat
  | .row t => [t]
  | .rel t _ _ => [t]
  | .view t _ _ _ => [t]
  | .loc t _ => match o.get t with
    | some (.box cs) => rowsL cs
    | _ => []
  | .tup cs => rowsL cs
  | _ => []

section
variable (Θ : Tab) (nofr : Nat → Bool) (call : Nat → List SV → TM AO → Nat → Option XR)

def putD (sl : TM SV) (d : Option Nat) (v : SV) : TM SV :=
  match d with
  | some d => sl.set d (some v)
  | none => sl
theorem putD_ok (sl : TM SV) (d : Option Nat) (v : SV) : (fun u => ((putD sl d v).get u).getD .any) = pt (fun u => (sl.get u).getD .any) d v := by
  cases d with
  | none => rfl
  | some d =>
    simp only [putD, pt, TM.get_set]
    funext u
    simp only [upd]
    split <;> rfl
theorem put_st (s : XS) (d : Option Nat) (v : SV) (o : TM AO) (nk : Nat) : (XS.mk (putD s.sl d v) o nk).st = { sl := pt s.st.sl d v, o := o.get, nk := nk } := by
  simp only [XS.st, putD_ok]

def xGuard (ops : Array Oper) (sl : TM SV) : Option (Nat × Bool) → Option Bool
  | none => some true
  | some (j, want) => match (ops[j]?).bind (·.dst) with
    | none => none
    | some d => match sl.get d with
      | some (.d (.bool b)) => some (if want = true then b else !b)
      | some (.tup []) => some false
      | _ => none
theorem xGuard_ok {ops : Array Oper} {s : XS} {g : Option (Nat × Bool)} {c : Bool} (h : xGuard ops s.sl g = some c) : gdc ops s.st g c := by
  unfold xGuard at h
  split at h
  · simp only [Option.some.injEq] at h; exact h.symm
  · rename_i j want
    split at h
    · cases h
    · rename_i d hd
      have hg : gsl ops s.st j = (s.sl.get d).getD .any := by unfold gsl; rw [hd]; rfl
      show GC (gsl ops s.st j) want c
      split at h
      · rename_i b hb
        simp only [Option.some.injEq] at h; subst h
        rw [hg, hb]
        exact .inl ⟨b, rfl, rfl⟩
      · rename_i hb
        simp only [Option.some.injEq] at h; subst h
        rw [hg, hb]
        exact .inr ⟨false, true, by rw [cnd_F]; rfl, rfl⟩
      · cases h

def callF : Op → Option Nat
  | .call c => match c.callee with
    | .value (.func f) => some f
    | _ => none
  | _ => none
def opVals (op : Op) (s : XS) : List SV := op.operands.toList.map (xev s)
def preF (op : Op) (s : XS) : List Nat :=
  match callF op with
  | some f => bif nofr f then [] else rowsL (opVals op s)
  | none => []
def postF (op : Op) (s : XS) : List Nat :=
  match op with
  | .store _ _ y => rowsO s.o (xev s y)
  | op => (opVals op s).flatMap (rowsO s.o)
def XS.soft (s : XS) : XS := ⟨s.sl.mapT SV.soft, s.o, s.nk⟩
theorem XS.soft_ok {E : Ent} {s : XS} {a : Act} {w : World} (h : Rel E s.st a w) : Rel E s.soft.st a w := by
  obtain ⟨S, γ, h⟩ := h
  have e : ∀ u, (s.soft.st.sl u) = (s.st.sl u).soft := fun u => by
    simp only [XS.soft, XS.st, TM.get_mapT]
    cases s.sl.get u <;> rfl
  exact ⟨S, γ, h.sto, h.tr, fun u => by rw [e]; exact (h.sl u).soft, fun u => by rw [e]; exact SV.soft_lt (h.slt u), h.df, h.nn⟩

def xStep (ops : Array Oper) (op : Oper) (s : XS) : Option XS :=
  match xGuard ops s.sl op.guard with
  | none => none
  | some false => some ⟨putD s.sl op.dst (.tup []), s.o, s.nk⟩
  | some true => match s.frzs (preF nofr op.op s) with
    | s1 => match xOp Θ call op.op s1 with
      | some (v, o', nk') => some ⟨putD s1.sl op.dst v, o', nk'⟩
      | none => match (s1.frzs (postF op.op s1)).soft with
        | s2 => match xOp Θ call op.op s2 with
          | some (v, o', nk') => some ⟨putD s2.sl op.dst v, o', nk'⟩
          | none => none
def xOps (ops : Array Oper) : List Oper → XS → Option XS
  | [], s => some s
  | op :: r, s => match xStep Θ nofr call ops op s with
    | some s' => xOps ops r s'
    | none => none
end
section
variable {P : Program} {Θ : Tab} {nofr : Nat → Bool} {call : Nat → List SV → TM AO → Nat → Option XR}
def CallOk (P : Program) (call : Nat → List SV → TM AO → Nat → Option XR) : Prop := ∀ f asx o nk r o' nk', call f asx o nk = some (r, o', nk') → Spec P f asx o.get nk fun r2 o2 n2 => r2 = r ∧ o2 = o'.get ∧ n2 = nk'
theorem gdc_wanted {E : Ent} {s : St} {a : Act} {w : World} {ops : Array Oper} {o : Oper} {c : Bool} (hr : Rel E s a w) (h : gdc ops s o.guard c) : Region.wanted o (yielded ops a.tmps) = c := by
  unfold gdc at h
  unfold Region.wanted
  split at h
  · rename_i hg; rw [hg]; exact h.symm
  · rename_i j want hg
    rw [hg]
    exact guard_yield hr h
theorem xStep_ok (hΘ : TabOk P Θ) (hc : CallOk P call) {E : Ent} {ops : Array Oper} {op : Oper} {s s' : XS} {a : Act} {w : World} {next : Act → World → Prop} {Q : Exit → Act → World → Prop} (h : xStep Θ nofr call ops op s = some s') (hr : Rel E s.st a w) (hd : dstOk E.n op.dst = true)
    (hn : ∀ a' w', Rel E s'.st a' w' → next a' w') : if Region.wanted op (yielded ops a.tmps) then op.wp P a w next Q else next (a.put op.dst undef) w := by
  unfold xStep at h
  split at h
  · cases h
  · rename_i hg
    have hw := gdc_wanted (o := op) hr (xGuard_ok hg)
    rw [if_neg (by rw [hw]; simp)]
    simp only [Option.some.injEq] at h
    subst h
    refine hn _ _ ?_
    rw [put_st]
    obtain ⟨S, γ, hr⟩ := hr
    exact ⟨S, γ, hr.put hd hr.sto (Tr.refl _ _ _ _ _) (.tup [] [] rfl (by simp)) trivial⟩
  · rename_i hg
    have hw := gdc_wanted (o := op) hr (xGuard_ok hg)
    rw [if_pos (by rw [hw])]
    simp only at h
    have hr1 := XS.frzs_ok (preF nofr op.op s) hr
    generalize s.frzs (preF nofr op.op s) = s1 at h hr1
    split at h
    · rename_i v o' nk' hx
      simp only [Option.some.injEq] at h
      subst h
      refine op_step hΘ hr1 hd (xOp_ok hc hx (K := fun v2 o2 n2 => v2 = v ∧ o2 = o'.get ∧ n2 = nk') ⟨rfl, rfl, rfl⟩) ?_
      rintro v2 o2 n2 a' w' ⟨rfl, rfl, rfl⟩ hr'
      refine hn _ _ ?_
      rw [put_st]; exact hr'
    · have hr2 := XS.soft_ok (XS.frzs_ok (postF op.op s1) hr1)
      generalize (s1.frzs (postF op.op s1)).soft = s2 at h hr2
      split at h
      · rename_i v o' nk' hx
        simp only [Option.some.injEq] at h
        subst h
        refine op_step hΘ hr2 hd (xOp_ok hc hx (K := fun v2 o2 n2 => v2 = v ∧ o2 = o'.get ∧ n2 = nk') ⟨rfl, rfl, rfl⟩) ?_
        rintro v2 o2 n2 a' w' ⟨rfl, rfl, rfl⟩ hr'
        refine hn _ _ ?_
        rw [put_st]; exact hr'
      · cases h
theorem xOps_ok (hΘ : TabOk P Θ) (hc : CallOk P call) {E : Ent} {ops : Array Oper} {Q : Exit → Act → World → Prop} {s' : XS} (hq : ∀ a w, Rel E s'.st a w → Q .normal a w) :
    ∀ (l : List Oper) (s : XS) (a : Act) (w : World), (l.all fun o => dstOk E.n o.dst) = true → Rel E s.st a w → xOps Θ nofr call ops l s = some s' → wpList P ops Q l a w
  | [], s, a, w, _, hr, h => by
    simp only [xOps, Option.some.injEq] at h
    subst h
    exact hq a w hr
  | op :: r, s, a, w, hd, hr, h => by
    simp only [List.all_cons, Bool.and_eq_true] at hd
    simp only [xOps] at h
    split at h
    · rename_i s1 hs1
      refine wpList_step fun K hK => ?_
      exact xStep_ok hΘ hc hs1 hr hd.1 fun a' w' h1 => hK a' w' (xOps_ok hΘ hc hq r s1 a' w' hd.2 h1 h)
    · cases h
end
end Go.Proofs.YtfgampmhjfffdaaGreat.Abs

/- A run of code that is computed: drawn regions, loops, calls. -/
set_option linter.unusedVariables false
set_option linter.unusedSimpArgs false
namespace Go.Proofs.YtfgampmhjfffdaaGreat.Abs
open Go

def isW (op : Op) : Bool :=
  match op with
  | .store _ _ _ => true
  | .box _ _ => true
  | .alloc _ => true
  | .makeMap _ _ => true
  | .mapUpdate _ _ _ _ => true
  | .range _ _ => true
  | .next _ _ => true
  | .buildSlice _ n _ => Nat.beq n 0
  | .makeSlice _ _ _ => true
  | .call c => match c.callee with
    | .builtin .len => false
    | .builtin .max => false
    | .builtin .min => false
    | _ => true
  | _ => false
/-- What leaves the objects. -/
def isQ (op : Op) : Bool :=
  match op with
  | .move _ => true
  | .assign _ => true
  | .pick _ _ _ => true
  | .build _ _ => true
  | .load _ _ => true
  | .nilCheck _ => true
  | .binOp _ _ _ _ _ => true
  | .unOp _ _ _ => true
  | .convert _ _ _ => true
  | .makeFunc _ _ _ => true
  | .fieldAddr _ _ _ => true
  | .field _ _ _ => true
  | .indexAddr _ _ _ => true
  | .index _ _ _ => true
  | .extract _ _ => true
  | .buildSlice _ _ _ => true
  | .slice _ _ _ _ _ => true
  | .lookup _ _ _ _ => true
  | .call c => match c.callee with
    | .builtin b => match b with
      | .len => true
      | .max => true
      | .min => true
      | _ => false
    | _ => false
  | _ => false
section
variable {Θ : Tab} {call : Nat → List SV → TM AO → Nat → Option XR}
theorem xq0 {op : Op} {s : XS} {r : SV} {o' : TM AO} {nk' : Nat} (hq : isQ op = true) (h : xOp0 Θ call op s = some (r, o', nk')) (hn : nk' = s.nk) : o' = s.o := by
  have mp : ∀ {α : Type} {x : Option α} {f : α → SV}, x.map (fun v => (f v, s.o, s.nk)) = some (r, o', nk') → o' = s.o := fun h => by
    obtain ⟨v, _, h⟩ := Option.map_eq_some_iff.1 h
    simp only [Prod.mk.injEq] at h
    exact h.2.1.symm
  unfold xOp0 at h
  cases op <;> simp only [isQ, Bool.false_eq_true] at hq <;> simp only at h
  case move => simp only [Option.some.injEq, Prod.mk.injEq] at h; exact h.2.1.symm
  case assign => simp only [Option.some.injEq, Prod.mk.injEq] at h; exact h.2.1.symm
  case pick => split at h <;> first | (simp only [Option.some.injEq, Prod.mk.injEq] at h; exact h.2.1.symm) | cases h
  case build => exact mp h
  case load => exact mp h
  case binOp => exact mp (f := .d) h
  case unOp => exact mp (f := .d) h
  case convert => exact mp h
  case fieldAddr => exact mp h
  case field => exact mp h
  case indexAddr => exact mp h
  case lookup => cases h
  case nilCheck =>
    split at h
    · split at h
      · simp only [Option.some.injEq, Prod.mk.injEq] at h; exact h.2.1.symm
      · cases h
    all_goals first | (simp only [Option.some.injEq, Prod.mk.injEq] at h; exact h.2.1.symm) | cases h
  case makeFunc => split at h <;> first | (simp only [Option.some.injEq, Prod.mk.injEq] at h; exact h.2.1.symm) | cases h
  case index =>
    split at h
    · cases h
    · split at h
      · split at h <;> first | (simp only [Option.some.injEq, Prod.mk.injEq] at h; exact h.2.1.symm) | cases h
      · cases h
  case extract =>
    split at h
    · exact mp h
    · cases h
  case buildSlice =>
    unfold xbs at h
    repeat' (split at h)
    all_goals first | cases h; done | (simp only [Option.some.injEq, Prod.mk.injEq] at h; first | exact h.2.1.symm | omega)
  case slice =>
    unfold xsl at h
    repeat' (split at h)
    all_goals first | cases h; done | (simp only [Option.some.injEq, Prod.mk.injEq] at h; first | exact h.2.1.symm | omega)
  case call c =>
    obtain ⟨callee, asx, ts⟩ := c
    cases callee with
    | builtin b =>
      simp only at h hq
      split at h
      · exact mp h
      · simp at hq
      · exact mp (f := .d) h
      · exact mp (f := .d) h
      · cases h
    | _ => simp at hq

theorem nW0_q {op : Op} {ev : Operand → SV} {o : Nat → Option AO} {nk : Nat} (hq : isQ op = true) : nW0 Θ op ev o nk = none := by
  cases op <;> simp only [isQ, Bool.false_eq_true] at hq <;> simp only [nW0]
  case call c =>
    obtain ⟨callee, asx, ts⟩ := c
    cases callee with
    | builtin b => cases b <;> first | (simp at hq; done) | rfl
    | _ => simp at hq
theorem nWF_q {op : Op} {ev : Operand → SV} {o : Nat → Option AO} {nk : Nat} (hq : isQ op = true) : ∀ l : List Operand, nWF Θ op ev o nk l = none
  | [] => rfl
  | x :: l => by
    have ih := nWF_q (ev := ev) (o := o) (nk := nk) hq l
    simp only [nWF]
    split
    · split
      · rw [nW0_q hq]; exact ih
      · exact ih
    · exact ih
theorem xq {op : Op} {s : XS} {r : SV} {o' : TM AO} {nk' : Nat} (hq : isQ op = true) (h : xOp Θ call op s = some (r, o', nk')) (hn : nk' = s.nk) : o' = s.o := by
  unfold xOp at h
  split at h
  · simp only [Option.some.injEq, Prod.mk.injEq] at h
    exact h.2.1.symm
  · rw [nW0_q hq] at h
    simp only at h
    split at h
    · rename_i r0 h0
      simp only [Option.some.injEq] at h
      subst h
      exact xq0 hq h0 hn
    · rw [nWF_q hq] at h
      cases h
/-- One operation, heeding its guard. -/
def xG (Θ : Tab) (call : Nat → List SV → TM AO → Nat → Option XR) (ops : Array Oper) (op : Oper) (s : XS) : Option XR :=
  match xGuard ops s.sl op.guard with
  | none => none
  | some false => some (.tup [], s.o, s.nk)
  | some true => xOp Θ call op.op s

/-- All that is done, one behind the other: what is yielded, and the objects behind every change. -/
def xDr (Θ : Tab) (call : Nat → List SV → TM AO → Nat → Option XR) (ops : Array Oper) : List Oper → List Kd → XS → Option (List SV × List (TM AO × Nat) × TM SV)
  | [], [], s => some ([], [], s.sl)
  | op :: r, .w _ :: ks, s => match xG Θ call ops op s with
    | none => none
    | some (v, o', nk') => match xDr Θ call ops r ks ⟨putD s.sl op.dst v, o', nk'⟩ with
      | none => none
      | some (vs, phs, sl) => some (v :: vs, (o', nk') :: phs, sl)
  | op :: r, .q _ _ :: ks, s => match xG Θ call ops op s with
    | none => none
    | some (v, _, _) => match xDr Θ call ops r ks ⟨putD s.sl op.dst v, s.o, s.nk⟩ with
      | none => none
      | some (vs, phs, sl) => some (v :: vs, phs, sl)
  | _, _, _ => none
def allX (n : Nat) (p : Nat → Bool) (lo : Nat) : Bool :=
  match n with
  | 0 => p lo
  | n + 1 => p lo && allX n p (lo + 1)
/-- What only looks yields the same whenever it is its turn. -/
def xChk (Θ : Tab) (call : Nat → List SV → TM AO → Nat → Option XR) (ops : Array Oper) (L : List (TM AO × Nat)) : List Oper → List Kd → List SV → TM SV → Nat → Bool
  | [], [], [], _, _ => true
  | op :: r, .w j :: ks, v :: vs, sl, p => decide (j = p) && xChk Θ call ops L r ks vs (putD sl op.dst v) (p + 1)
  | op :: r, .q lo hi :: ks, v :: vs, sl, p => isQ op.op && (allX (hi - lo) (fun q => match L[q]? with
      | none => false
      | some (o, nk) => match xG Θ call ops op ⟨sl, o, nk⟩ with
        | none => false
        | some (v2, _, nk2) => SV.eqb v v2 && decide (nk2 = nk)) lo) && xChk Θ call ops L r ks vs (putD sl op.dst v) p
  | _, _, _, _, _ => false
theorem xG_q {ops : Array Oper} {op : Oper} {s : XS} {v : SV} {o' : TM AO} {nk' : Nat} {P : Program} (hc : CallOk P call) (hq : isQ op.op = true) (h : xG Θ call ops op s = some (v, o', nk')) (hn : nk' = s.nk) : gOp P Θ ops op s.st v := by
  unfold xG at h
  split at h
  · cases h
  · rename_i hg
    have hg2 := xGuard_ok hg
    simp only [Option.some.injEq, Prod.mk.injEq] at h
    obtain ⟨rfl, _, _⟩ := h
    unfold gOp
    unfold gdc at hg2
    split at hg2
    · cases hg2
    · rename_i j want hgu
      rw [hgu]
      exact ⟨false, .any, hg2, fun e => (by cases e), (cnd_F _).symm⟩
  · rename_i hg
    have hg2 := xGuard_ok hg
    have ho := xq hq h hn
    subst ho; subst hn
    have hv : pOp P Θ op.op s.st v := xOp_ok hc h ⟨rfl, rfl, rfl⟩
    unfold gOp
    unfold gdc at hg2
    split at hg2
    · rename_i hgu; rw [hgu]; exact hv
    · rename_i j want hgu
      rw [hgu]
      exact ⟨true, v, hg2, fun _ => hv, (cnd_T v).symm⟩
theorem allX_ok {p : Nat → Bool} {R : Nat → Prop} (h : ∀ q, p q = true → R q) : ∀ (n lo : Nat), allX n p lo = true → allP n R lo
  | 0, lo, h1 => h lo h1
  | n + 1, lo, h1 => by
    simp only [allX, Bool.and_eq_true] at h1
    exact ⟨h lo h1.1, allX_ok h n (lo + 1) h1.2⟩
def phx (L : List (TM AO × Nat)) : Nat → Ob := fun p => match L[p]? with
  | some (o, nk) => (o.get, nk)
  | none => (fun _ => none, 0)
theorem xDr_ok {P : Program} (hc : CallOk P call) {ops : Array Oper} {K : St → Prop} {L : List (TM AO × Nat)} {m : Nat} {fin : XS} (hK : K fin.st) (hm : L[m]? = some (fin.o, fin.nk)) :
    ∀ (l : List Oper) (ks : List Kd) (s : XS) (vs : List SV) (phs pre : List (TM AO × Nat)) (p : Nat), xDr Θ call ops l ks s = some (vs, phs, fin.sl) → pre.length = p → L = pre ++ (s.o, s.nk) :: phs →
      m = p + phs.length → xChk Θ call ops L l ks vs s.sl p = true → eOps P Θ ops K (phx L) m l ks s.st.sl
  | [], [], s, vs, phs, pre, p, h, hp, hL, hmp, hk => by
    simp only [xDr, Option.some.injEq, Prod.mk.injEq] at h
    obtain ⟨rfl, rfl, h3⟩ := h
    show K ⟨s.st.sl, (phx L m).1, (phx L m).2⟩
    simp only [phx, hm]
    have : (⟨s.st.sl, fin.o.get, fin.nk⟩ : St) = fin.st := by simp only [XS.st, h3]
    rw [this]; exact hK
  | [], k :: ks, s, vs, phs, pre, p, h, hp, hL, hmp, hk => by simp [xDr] at h
  | op :: r, [], s, vs, phs, pre, p, h, hp, hL, hmp, hk => by simp [xDr] at h
  | op :: r, .w j :: ks, s, vs, phs, pre, p, h, hp, hL, hmp, hk => by
    simp only [xDr] at h
    split at h
    · cases h
    · rename_i v o' nk' hx
      split at h
      · cases h
      · rename_i vs' phs' sl' hx'
        simp only [Option.some.injEq, Prod.mk.injEq] at h
        obtain ⟨rfl, rfl, rfl⟩ := h
        simp only [xChk, Bool.and_eq_true, decide_eq_true_eq] at hk
        obtain ⟨rfl, hk⟩ := hk
        have hLp : L[j]? = some (s.o, s.nk) := by rw [hL, List.getElem?_append_right (by omega), hp]; simp
        have hLp1 : L[j + 1]? = some (o', nk') := by rw [hL, List.getElem?_append_right (by omega), hp]; simp
        have ih := xDr_ok hc hK hm r ks ⟨putD s.sl op.dst v, o', nk'⟩ vs' phs' (pre ++ [(s.o, s.nk)]) (j + 1) hx' (by simp [hp]) (by rw [hL]; simp) (by simp only [List.length_cons] at hmp; omega) hk
        refine ⟨v, ?_, by rw [put_st] at ih; exact ih⟩
        simp only [eOp, phx, hLp, hLp1]
        unfold xG at hx
        split at hx
        · cases hx
        · rename_i hg
          simp only [Option.some.injEq, Prod.mk.injEq] at hx
          obtain ⟨rfl, rfl, rfl⟩ := hx
          exact ⟨false, .any, xGuard_ok hg, fun e => (by cases e), fun _ => rfl, (cnd_F _).symm⟩
        · rename_i hg
          exact ⟨true, v, xGuard_ok hg, fun _ => xOp_ok hc hx ⟨rfl, rfl, rfl⟩, fun e => (by cases e), (cnd_T v).symm⟩
  | op :: r, .q lo hi :: ks, s, vs, phs, pre, p, h, hp, hL, hmp, hk => by
    simp only [xDr] at h
    split at h
    · cases h
    · rename_i v o' nk' hx
      split at h
      · cases h
      · rename_i vs' phs' sl' hx'
        simp only [Option.some.injEq, Prod.mk.injEq] at h
        obtain ⟨rfl, rfl, rfl⟩ := h
        simp only [xChk, Bool.and_eq_true] at hk
        obtain ⟨⟨hq, hall⟩, hk⟩ := hk
        have ih := xDr_ok hc hK hm r ks ⟨putD s.sl op.dst v, s.o, s.nk⟩ vs' phs' pre p hx' hp hL hmp hk
        refine ⟨v, ?_, by rw [put_st] at ih; exact ih⟩
        simp only [eOp]
        refine allX_ok (fun q hqq => ?_) _ _ hall
        split at hqq
        · cases hqq
        · rename_i o2 nk2 hLq
          split at hqq
          · cases hqq
          · rename_i v2 o3 nk3 hg
            simp only [Bool.and_eq_true, decide_eq_true_eq] at hqq
            have hv := SV.eqb_ok hqq.1
            subst hv
            have := xG_q (P := P) hc hq hg hqq.2
            simp only [phx, hLq]
            exact this
end

def takeN (p : Nat → Bool) : List Nat → Nat
  | [] => 0
  | x :: r => bif p x then takeN p r + 1 else 0
def kdGo (an : List (List Nat)) (ws : List Nat) : List Oper → Nat → Nat → List Kd
  | [], _, _ => []
  | op :: r, i, j => bif isW op.op then .w j :: kdGo an ws r (i + 1) (j + 1)
    else .q (takeN (fun w => (an.getD i []).contains w) ws) (takeN (fun w => !(an.getD w []).contains i) ws) :: kdGo an ws r (i + 1) j
def wrGo : List Oper → Nat → List Nat
  | [], _ => []
  | op :: r, i => bif isW op.op then i :: wrGo r (i + 1) else wrGo r (i + 1)
section
variable (Θ : Tab) (nofr : Nat → Bool) (call : Nat → List SV → TM AO → Nat → Option XR)
def xDraw (ops : Array Oper) (s : XS) : Option XS :=
  match ops.toList with
  | l => match wrGo l 0 with
    | wr => match kdGo (ancs l l.length) wr l 0 0 with
      | kd => bif flowOk ops && phOk l kd wr then match xDr Θ call ops l kd s with
          | none => none
          | some (vs, phs, sl) => match (s.o, s.nk) :: phs with
            | L => bif xChk Θ call ops L l kd vs s.sl 0 then match L[wr.length]? with
                | none => none
                | some (o, nk) => bif Nat.beq wr.length phs.length then some ⟨sl, o, nk⟩ else none
              else none
        else none
theorem xDraw_ok {P : Program} {n k0 : Nat} {Q : Exit → St → Prop} (hΘ : TabOk P Θ) (hm : P.follows .mixedOrders = true) (hc : CallOk P call) {id : Nat} {ops : Array Oper} {s s' : XS} (hd : (ops.toList.all fun o => dstOk n o.dst) = true) (h : xDraw Θ call ops s = some s') (hQ : Q .normal s'.st) :
    WP P n k0 (.region id ops true) s.st Q := by
  unfold xDraw at h
  simp only at h
  cases hb : flowOk ops && phOk ops.toList (kdGo (ancs ops.toList ops.toList.length) (wrGo ops.toList 0) ops.toList 0 0) (wrGo ops.toList 0) with
  | false => rw [hb] at h; cases h
  | true =>
    rw [hb] at h
    simp only [cond_true] at h
    simp only [Bool.and_eq_true] at hb
    split at h
    · cases h
    · rename_i vs phs sl hx
      cases hk : xChk Θ call ops ((s.o, s.nk) :: phs) ops.toList (kdGo (ancs ops.toList ops.toList.length) (wrGo ops.toList 0) ops.toList 0 0) vs s.sl 0 with
      | false => rw [hk] at h; cases h
      | true =>
        rw [hk] at h
        simp only [cond_true] at h
        split at h
        · cases h
        · rename_i o nk hL
          cases he : Nat.beq (wrGo ops.toList 0).length phs.length with
          | false => rw [he] at h; cases h
          | true =>
            rw [he] at h
            simp only [cond_true, Option.some.injEq] at h
            subst h
            have hlen := Nat.eq_of_beq_eq_true he
            have := WP.drawnW (P := P) (Θ := Θ) (n := n) (k0 := k0) (Q := Q) hΘ hm (sl := s.st.sl) (id := id) (ops := ops) _ _ (phx ((s.o, s.nk) :: phs)) hd hb.1 hb.2
              (xDr_ok hc (fin := ⟨sl, o, nk⟩) hQ hL _ _ s vs phs [] 0 hx rfl rfl (by omega) hk)
            exact this
end
end Go.Proofs.YtfgampmhjfffdaaGreat.Abs

/- Pending allocs: a block that is there, and that nothing is told of yet, becomes an object; an object that is told of in one slot alone becomes such a block. -/
set_option linter.unusedVariables false
set_option linter.unusedSimpArgs false
namespace Go.Proofs.YtfgampmhjfffdaaGreat.Abs
open Go

/-- A block of cells that nothing is told of. -/
structure Pend (w0 : World) (w : World) (S : Nat → Prop) (γ : Nat → Value) (o : Nat → Option AO) (g : Nat) (l : List D) : Prop where
  mk ::
  cells : ∃ arr ty, w.heap[g]? = some (.cells arr ty (0, 0)) ∧ arr.size = l.length ∧ ∀ (i : Nat) (c : D) (u : Value), l[i]? = some c → arr[i]? = some u → Rd w S c u
  new : w0.heap.size ≤ g
  lt : g < w.heap.size
  ns : ¬ S g
  nl : ¬ Live γ o g

theorem Sto.adopt {w : World} {S : Nat → Prop} {γ : Nat → Value} {o : Nat → Option AO} {nk : Nat} (h : Sto w S γ o nk) {w0 : World} {g : Nat} {l : List D} (hp : Pend w0 w S γ o g l) :
    Sto w S (upd γ nk (.pointer (some ⟨g, 0, none⟩))) (upd o nk (some (.box (l.map .d)))) (nk + 1) := by
  obtain ⟨⟨arr, ty, hg0, hsz, hr⟩, hw0, hlt, hns, hnl⟩ := hp
  have hne : ∀ t x, o t = some x → t ≠ nk := fun t x hx e => by have := h.o_lt t x hx; omega
  have hkeys : ∀ t x, t < nk → upd o nk (some (.box (l.map .d))) t = some x → ∃ y, o t = some y ∧ AO.kin y x ∧ upd γ nk (.pointer (some ⟨g, 0, none⟩)) t = γ t := by
    intro t x ht hx
    rw [upd_ne _ _ (by omega)] at hx
    exact ⟨x, hx, AO.kin_refl x, upd_ne _ _ (by omega)⟩
  have hlive : ∀ t x g', upd o nk (some (.box (l.map .d))) t = some x → blk (upd γ nk (.pointer (some ⟨g, 0, none⟩)) t) = some g' → (t = nk ∧ g' = g) ∨ (t ≠ nk ∧ o t = some x ∧ blk (γ t) = some g') := by
    intro t x g' hx hg
    by_cases ht : t = nk
    · subst ht
      rw [upd_same] at hg
      simp [blk] at hg
      exact .inl ⟨rfl, hg.symm⟩
    · rw [upd_ne _ _ ht] at hx hg
      exact .inr ⟨ht, hx, hg⟩
  refine ⟨h.s_lt, ?_, ?_, ?_, ?_, ?_, ?_⟩
  · intro t x hx
    by_cases ht : t = nk
    · omega
    · rw [upd_ne _ _ ht] at hx
      have := h.o_lt t x hx; omega
  · intro t cs' hc
    by_cases ht : t = nk
    · subst ht
      rw [upd_same] at hc
      simp at hc
      subst hc
      rw [upd_same]
      refine ⟨⟨g, arr, ty, rfl, hg0, by simp [hsz], fun i c u h1 h2 => ?_⟩, lts_of fun i c hc => ?_⟩
      · rw [List.getElem?_map] at h1
        obtain ⟨d, hd, rfl⟩ := Option.map_eq_some_iff.1 h1
        exact .d _ _ (hr i d u hd h2)
      · rw [List.getElem?_map] at hc
        obtain ⟨d, hd, rfl⟩ := Option.map_eq_some_iff.1 hc
        trivial
    · rw [upd_ne _ _ ht] at hc
      obtain ⟨⟨g', arr', ty', h4, h5, h6, h7⟩, hl'⟩ := h.box t cs' hc
      rw [upd_ne _ _ ht]
      exact ⟨⟨g', arr', ty', h4, h5, h6, fun i c u h8 h9 => (h7 i c u h8 h9).move (fun _ h => h) (fun _ _ => rfl) hkeys (lts_get hl' i c h8)⟩, SV.lts_mono (Nat.le_succ _) hl'⟩
  · intro t e z xs hx
    by_cases ht : t = nk
    · subst ht; rw [upd_same] at hx; cases hx
    · rw [upd_ne _ _ ht] at hx
      rw [upd_ne _ _ ht]
      exact h.row t e z xs hx
  · intro t ob hx
    by_cases ht : t = nk
    · subst ht; rw [upd_same] at hx; cases hx
    · rw [upd_ne _ _ ht] at hx
      rw [upd_ne _ _ ht]
      exact h.raw t ob hx
  · intro t x g' hx hg
    rcases hlive t x g' hx hg with ⟨_, rfl⟩ | ⟨_, h1, h2⟩
    · exact ⟨hns, hlt⟩
    · exact h.away t x g' h1 h2
  · intro t t' x x' g' hne' hx hx' hg hg'
    rcases hlive t x g' hx hg with ⟨h1, h2⟩ | ⟨h1, h2, h3⟩ <;> rcases hlive t' x' g' hx' hg' with ⟨h1', h2'⟩ | ⟨h1', h2', h3'⟩
    · exact hne' (h1.trans h1'.symm)
    · subst h2; exact hnl ⟨t', x', h2', h3'⟩
    · subst h2'; exact hnl ⟨t, x, h2, h3⟩
    · exact h.apart t t' x x' g' hne' h2 h2' h3 h3'
/-- It stays pending through a step. -/
theorem Pend.tr {w0 w w' : World} {S S' : Nat → Prop} {γ γ' : Nat → Value} {o o' : Nat → Option AO} {nk nk' g : Nat} {l : List D} (hs : Sto w S γ o nk) (ht : Tr w S γ o nk w' S' γ' o' nk') (hp : Pend w0 w S γ o g l) : Pend w0 w' S' γ' o' g l := by
  obtain ⟨⟨arr, ty, hg0, hsz, hr⟩, hw0, hlt, hns, hnl⟩ := hp
  refine ⟨⟨arr, ty, by rw [ht.kept g hlt hnl]; exact hg0, hsz, fun i c u h1 h2 => ht.rd hs (hr i c u h1 h2)⟩, hw0, Nat.lt_of_lt_of_le hlt ht.size, fun h => ?_, fun h => ?_⟩
  · rcases ht.s_new g h with h1 | h1 | h1
    · exact hns h1
    · omega
    · exact hnl h1
  · rcases ht.live g h with h1 | h1
    · omega
    · exact hnl h1
/-- What is told of the frame once the block in slot t is an object. -/
theorem Rl.adopt {E : Ent} {s : St} {a : Act} {w : World} {S : Nat → Prop} {γ : Nat → Value} (hr : Rl E s a w S γ) {g t : Nat} {l : List D} (hp : Pend E.w w S γ s.o g l) (ht : a.tmps.getD t undef = .pointer (some ⟨g, 0, none⟩)) :
    Rl E { sl := upd s.sl t (.loc s.nk 0), o := upd s.o s.nk (some (.box (l.map .d))), nk := s.nk + 1 } a w S (upd γ s.nk (.pointer (some ⟨g, 0, none⟩))) := by
  have hsto := hr.sto.adopt hp
  have hkeys : ∀ u x, u < s.nk → upd s.o s.nk (some (.box (l.map .d))) u = some x → ∃ y, s.o u = some y ∧ AO.kin y x ∧ upd γ s.nk (.pointer (some ⟨g, 0, none⟩)) u = γ u := by
    intro u x hu hx
    rw [upd_ne _ _ (by omega)] at hx
    exact ⟨x, hx, AO.kin_refl x, upd_ne _ _ (by omega)⟩
  have hstep : Tr E.w E.S E.γ E.o E.nk w S (upd γ s.nk (.pointer (some ⟨g, 0, none⟩))) (upd s.o s.nk (some (.box (l.map .d)))) (s.nk + 1) := by
    refine ⟨hr.tr.os, hr.tr.tape, hr.tr.output, hr.tr.size, Nat.le_succ_of_le hr.tr.nks, hr.tr.kept, hr.tr.s, hr.tr.s_new, ?_, ?_⟩
    · rintro g' ⟨u, x, hx, hg⟩
      by_cases hu : u = s.nk
      · subst hu
        rw [upd_same] at hg
        simp [blk] at hg
        subst hg
        exact .inl hp.new
      · rw [upd_ne _ _ hu] at hx hg
        exact hr.tr.live g' ⟨u, x, hx, hg⟩
    · intro u x hu hx
      have hlt : u < s.nk := Nat.lt_of_lt_of_le hu hr.tr.nks
      obtain ⟨y, hy, hk, hg⟩ := hkeys u x hlt hx
      obtain ⟨z, hz, hk', hg'⟩ := hr.tr.keys u y hu hy
      exact ⟨z, hz, AO.kin_trans hk' hk, hg.trans hg'⟩
  refine ⟨hsto, hstep, fun u => ?_, fun u => ?_, hr.df, hr.nn⟩
  · show SR w S _ _ (upd s.sl t (.loc s.nk 0) u) _
    by_cases hu : u = t
    · subst hu
      rw [upd_same, ht]
      exact .loc _ _ _ fun cs _ => ⟨g, upd_same _ _ _, rfl⟩
    · rw [upd_ne _ _ hu]
      exact (hr.sl u).move (fun _ h => h) (fun _ _ => rfl) hkeys (hr.slt u)
  · show (upd s.sl t (.loc s.nk 0) u).lt (s.nk + 1)
    by_cases hu : u = t
    · subst hu; rw [upd_same]; exact Nat.lt_succ_self _
    · rw [upd_ne _ _ hu]; exact SV.lt_mono (Nat.le_succ _) (hr.slt u)
section
variable {P : Program} {Θ : Tab}
/-- An alloc of which nothing is told but that its block is there. -/
theorem alloc_pend (hΘ : TabOk P Θ) {E : Ent} {s : St} {a : Act} {w : World} {S : Nat → Prop} {γ : Nat → Value} {o : Oper} {e t : Nat} {i : TI} {l : List D} {next : Act → World → Prop} {Q : Exit → Act → World → Prop} (hr : Rl E s a w S γ) (ho : o.op = .alloc e) (hd : o.dst = some t) (htn : t < E.n) (hi : Θ e = some i) (hz : i.z = some l)
    (hn : ∀ u w' S' γ' g, Rl E { sl := upd s.sl t .any, o := s.o, nk := s.nk } (a.put (some t) u) w' S' γ' → u = .pointer (some ⟨g, 0, none⟩) → w.heap.size ≤ g → Pend E.w w' S' γ' s.o g l → Tr w S γ s.o s.nk w' S' γ' s.o s.nk → next (a.put (some t) u) w') : o.wp P a w next Q := by
  have hv : vOp P Θ o.op s fun v o' nk' => v = .loc s.nk 0 ∧ o' = upd s.o s.nk (some (.box (l.map .d))) ∧ nk' = s.nk + 1 := by
    rw [ho]; exact .inl ⟨i, l, hi, hz, rfl, rfl, rfl⟩
  refine upon_of_eff (vOp_sound hΘ hr.fr hv) ?_
  rintro u w' ⟨v, o', nk', S', γ', ⟨rfl, rfl, rfl⟩, h1, h2, h3, h4⟩
  have hob : upd s.o s.nk (some (.box (l.map .d))) s.nk = some (.box (l.map .d)) := upd_same _ _ _
  obtain ⟨⟨g, arr, ty, hg1, hg2, hg3, hg4⟩, _⟩ := h1.box s.nk _ hob
  have hold : ∀ t x, s.o t = some x → t < s.nk ∧ upd s.o s.nk (some (.box (l.map .d))) t = some x := fun t x hx => by
    have := hr.sto.o_lt t x hx
    exact ⟨this, by rw [upd_ne _ _ (by omega)]; exact hx⟩
  have hbg : blk (γ' s.nk) = some g := by rw [hg1]; rfl
  have hnl : ¬ Live γ' s.o g := by
    rintro ⟨t, x, hx, hb⟩
    obtain ⟨hlt, hx'⟩ := hold t x hx
    exact h1.apart t s.nk x _ g (by omega) hx' hob hb hbg
  have hnew : w.heap.size ≤ g := by
    rcases h2.live g ⟨s.nk, _, hob, hbg⟩ with h | ⟨t, x, hx, hb⟩
    · exact h
    · obtain ⟨hlt, hx'⟩ := hold t x hx
      obtain ⟨_, _, _, hge⟩ := h2.keys t x hlt hx'
      exact absurd ⟨t, x, hx, by rw [hge]; exact hb⟩ hnl
  have hwk : Wko s.nk id (upd s.o s.nk (some (.box (l.map .d)))) s.o s.nk := by
    refine ⟨Nat.le_refl _, fun t x hx => ?_, fun t t' x x' _ _ h => h, fun _ _ _ _ => rfl⟩
    obtain ⟨hlt, hx'⟩ := hold t x hx
    refine ⟨hlt, by rw [AO.ren_id]; exact hx', ?_⟩
    cases x with
    | box cs => exact (hr.sto.box t cs hx).2
    | _ => trivial
  have hs' : Sto w' S' γ' s.o s.nk := hwk.sto h1
  have ht' : Tr w S γ s.o s.nk w' S' γ' s.o s.nk := hwk.tr h2
  have hu : u = .pointer (some ⟨g, 0, none⟩) := by
    cases h3 with
    | loc _ _ _ hv =>
      obtain ⟨g', k1, k2⟩ := hv _ hob
      rw [hg1] at k1
      simp at k1
      rw [k2, k1]
  have hp := hr.put (d := some t) (by simpa [dstOk] using htn) hs' ht' (.any u) trivial
  rw [hd]
  refine hn u w' S' γ' g hp hu hnew ⟨⟨arr, ty, hg2, by simpa using hg3, fun i c x hc hx => ?_⟩, Nat.le_trans hr.tr.size hnew, (h1.away s.nk _ g hob hbg).2, (h1.away s.nk _ g hob hbg).1, hnl⟩ ht'
  have := hg4 i (.d c) x (by rw [List.getElem?_map, hc]; rfl) hx
  cases this with
  | d _ _ h => exact h
theorem op_stepL {E : Ent} {s : St} {a : Act} {w : World} {S : Nat → Prop} {γ : Nat → Value} (hΘ : TabOk P Θ) {o : Oper} {next : Act → World → Prop} {Q : Exit → Act → World → Prop} {K : SV → (Nat → Option AO) → Nat → Prop} (hr : Rl E s a w S γ) (hd : dstOk E.n o.dst = true) (h : vOp P Θ o.op s K)
    (hn : ∀ v o' nk' u w' S' γ', K v o' nk' → Rl E { sl := pt s.sl o.dst v, o := o', nk := nk' } (a.put o.dst u) w' S' γ' → Tr w S γ s.o s.nk w' S' γ' o' nk' → next (a.put o.dst u) w') : o.wp P a w next Q := by
  refine upon_of_eff (vOp_sound hΘ hr.fr h) ?_
  rintro u w' ⟨v, o', nk', S', γ', hK, h1, h2, h3, h4⟩
  exact hn v o' nk' u w' S' γ' hK (hr.put hd h1 h2 h3 h4) h2
theorem g_stepL {E : Ent} {s : St} {a : Act} {w : World} {S : Nat → Prop} {γ : Nat → Value} (hΘ : TabOk P Θ) {ops : Array Oper} {o : Oper} {next : Act → World → Prop} {Q : Exit → Act → World → Prop} {v : SV} (hr : Rl E s a w S γ) (hd : dstOk E.n o.dst = true)
    (h : gOp P Θ ops o s v) (hn : ∀ u w' S' γ', Rl E { sl := pt s.sl o.dst v, o := s.o, nk := s.nk } (a.put o.dst u) w' S' γ' → Tr w S γ s.o s.nk w' S' γ' s.o s.nk → next (a.put o.dst u) w') :
    if Region.wanted o (yielded ops a.tmps) then o.wp P a w next Q else next (a.put o.dst undef) w := by
  unfold gOp at h
  unfold Region.wanted
  split at h
  · rename_i hg
    rw [hg]
    simp only [if_true]
    refine op_stepL hΘ hr hd h ?_
    rintro v' o' nk' u w' S' γ' ⟨rfl, rfl, rfl⟩ hr' ht
    exact hn u w' S' γ' hr' ht
  · rename_i j want hg
    rw [hg]
    obtain ⟨c, v', h1, h2, rfl⟩ := h
    have hy := guard_yield ⟨S, γ, hr⟩ h1
    simp only [hy]
    cases c with
    | true =>
      rw [if_pos rfl]
      refine op_stepL hΘ hr hd (h2 rfl) ?_
      rintro v' o' nk' u w' S' γ' ⟨rfl, rfl, rfl⟩ hr' ht
      exact hn u w' S' γ' (by rw [cnd_T]; exact hr') ht
    | false =>
      rw [if_neg (by simp)]
      exact hn undef w S γ (by rw [cnd_F]; exact hr.put hd hr.sto (Tr.refl _ _ _ _ _) (.tup [] [] rfl (by simp)) trivial) (Tr.refl _ _ _ _ _)
/-- What is pending in a slot. -/
def PendAt (E : Ent) (a : Act) (w : World) (S : Nat → Prop) (γ : Nat → Value) (o : Nat → Option AO) (g t : Nat) (l : List D) : Prop := a.tmps.getD t undef = .pointer (some ⟨g, 0, none⟩) ∧ Pend E.w w S γ o g l
theorem put_get (a : Act) (d : Option Nat) (u : Value) {t : Nat} (h : d ≠ some t) : (a.put d u).tmps.getD t undef = a.tmps.getD t undef := by
  cases d with
  | none => rfl
  | some d =>
    have hne : d ≠ t := fun e => h (by rw [e])
    simp [Act.put, Array.getElem?_setIfInBounds_ne hne]
theorem PendAt.step {E : Ent} {a : Act} {w w' : World} {S S' : Nat → Prop} {γ γ' : Nat → Value} {o o' : Nat → Option AO} {nk nk' g t : Nat} {l : List D} {d : Option Nat} {u : Value} (hs : Sto w S γ o nk) (ht : Tr w S γ o nk w' S' γ' o' nk') (hd : d ≠ some t) (h : PendAt E a w S γ o g t l) :
    PendAt E (a.put d u) w' S' γ' o' g t l := ⟨by rw [put_get a d u hd]; exact h.1, h.2.tr hs ht⟩
/-- Another block than the one that becomes an object stays pending. -/
theorem PendAt.adopt {E : Ent} {a : Act} {w : World} {S : Nat → Prop} {γ : Nat → Value} {o : Nat → Option AO} {nk g g2 t : Nat} {l l2 : List D} (h : PendAt E a w S γ o g t l) (hlt : ∀ t x, o t = some x → t < nk) (hne : g ≠ g2) :
    PendAt E a w S (upd γ nk (.pointer (some ⟨g2, 0, none⟩))) (upd o nk (some (.box (l2.map .d)))) g t l := by
  refine ⟨h.1, h.2.cells, h.2.new, h.2.lt, h.2.ns, ?_⟩
  rintro ⟨u, x, hx, hb⟩
  by_cases hu : u = nk
  · subst hu
    rw [upd_same] at hb
    simp [blk] at hb
    exact hne hb.symm
  · rw [upd_ne _ _ hu] at hx hb
    exact h.2.nl ⟨u, x, hx, hb⟩
end
/-- One more operation listed. -/
theorem slL_set {sl : Nat → SV} {prs : List (Option Nat × SV)} {lm : Array Bool} {i : Nat} {d : Option Nat} {v : SV} (huniq : Uniq prs) (hpv : prs[i]? = some (d, v)) (hi : i < lm.size) : slL sl prs (lm.setIfInBounds i true) = pt (slL sl prs lm) d v := by
  have hli : (lm.setIfInBounds i true).getD i false = true := by simp [hi]
  have hlf : ∀ j, j ≠ i → (lm.setIfInBounds i true).getD j false = lm.getD j false := fun j hj => getD_set_ne false (Ne.symm hj)
  funext u
  by_cases hex : ∃ (j : Nat) (x : SV), prs[j]? = some (some u, x)
  · obtain ⟨j, x, hj⟩ := hex
    by_cases hji : j = i
    · subst hji
      rw [hj] at hpv
      simp only [Option.some.injEq, Prod.mk.injEq] at hpv
      obtain ⟨h1, h2⟩ := hpv
      rw [slL_hit huniq hj hli, ← h1, h2]
      exact (upd_same _ _ _).symm
    · have hne : d ≠ some u := fun e => hji (huniq j i u x v hj (by rw [hpv, e]))
      have hp : pt (slL sl prs lm) d v u = slL sl prs lm u := by
        cases hod : d with
        | none => rfl
        | some d => exact upd_ne _ _ fun e => hne (by rw [hod, e])
      rw [hp]
      by_cases hl : lm.getD j false = true
      · rw [slL_hit huniq hj hl, slL_hit huniq hj (by rw [hlf j hji]; exact hl)]
      · rw [slL_miss, slL_miss]
        · intro k y hk hlk
          have := huniq k j u y x hk hj
          subst this
          exact hl hlk
        · intro k y hk hlk
          have := huniq k j u y x hk hj
          subst this
          rw [hlf k hji] at hlk
          exact hl hlk
  · have hne : d ≠ some u := fun e => hex ⟨i, v, by rw [hpv, e]⟩
    have hp : pt (slL sl prs lm) d v u = slL sl prs lm u := by
      cases hod : d with
      | none => rfl
      | some d => exact upd_ne _ _ fun e => hne (by rw [hod, e])
    rw [hp, slL_miss, slL_miss]
    · exact fun k y hk _ => hex ⟨k, y, hk⟩
    · exact fun k y hk _ => hex ⟨k, y, hk⟩
end Go.Proofs.YtfgampmhjfffdaaGreat.Abs
