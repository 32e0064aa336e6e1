/- Part 4 of the proof that MsgChecks: called with any message that holds at most 1048576 values and letters, the law answers true, and it reads afterwards as it read before. -/
import Derived.Test.YtmielecljgfnaaaGreatMMsgChecks3
import Derived.Laws.RangeAny
import Derived.Laws.RangeString
import Derived.Test.YtmielecljgfnaaaGreatMMsgChecks2
set_option linter.unusedVariables false
set_option linter.unusedSimpArgs false
set_option maxRecDepth 10000
namespace Go.Proofs.YtmielecljgfnaaaGreat.Abs
open Go

theorem fn96 : FnOk Tryz.prog 96 81 [4] (bodyOf Tryz.f96) := ⟨Tryz.f96, Tryz.func96, by kernel_rfl, by decide, by kernel_rfl, by kernel_rfl⟩
theorem s96A (m : Nat) : ∀ (v w : Val), SizeOf.sizeOf v < m → PSpec Tryz.prog 96 [.d (encV v), .d (encV w)] (.d (.bool (sameV v w))) := by
 induction m with
 | zero => intros; omega
 | succ m ih =>
  rintro ⟨kd, it, tx, xs, ns⟩ ⟨kd2, it2, tx2, ys, ms⟩ hv
  refine PSpec.bd fun hbd => ?_
  have hx : xs.length ≤ 9223372036854775807 := by simpa [encVs_length] using hbd.1.2.2.2.1.1
  have hx2 : ns.length ≤ 9223372036854775807 := by simpa using hbd.1.2.2.2.2.1.1
  refine PSpec.of fn96 (by simp) fun o nk => ?_
  refine wr ?_
  refine u_step (g_box rfl fun o2 hb2 hk2 => ?_)
  refine u_step (g_box rfl fun o3 hb3 hk3 => ?_)
  have hb2_3 := (hk3 _ (by omega)).trans hb2
  refine ua ?_
  refine u_nil ?_
  refine WP.seq fun K4 hK4 => ?_
  refine wr ?_
  refine uf th69 th3 hb2_3 ?_
  refine ul th3 hb2_3 ?_
  refine uf th69 th3 hb3 ?_
  refine ul th3 hb3 ?_
  refine ub ?_
  refine um ?_
  apply gF
  · rfl
  · intro hg
    exact pf th69 th3 hb2_3
  apply gF
  · rfl
  · intro hg; try simp only [hg, ct]; try simp only [hg, ct, Bt]
    exact pl th3 hb2_3
  apply gF
  · rfl
  · intro hg
    exact pf th69 th3 hb3
  apply gF
  · rfl
  · intro hg; try simp only [hg, ct]; try simp only [hg, ct, Bt]
    exact pl th3 hb3
  apply gF
  · rfl
  · intro hg; try simp only [hg, ct]; try simp only [hg, ct, Bt]
    exact pb
  refine uO ?_
  refine um ?_
  apply gF
  · rfl
  · intro hg
    exact pf th69 th9 hb2_3
  apply gF
  · rfl
  · intro hg; try simp only [hg, ct]; try simp only [hg, ct, Bt]
    exact pl th9 hb2_3
  apply gF
  · rfl
  · intro hg
    exact pf th69 th9 hb3
  apply gF
  · rfl
  · intro hg; try simp only [hg, ct]; try simp only [hg, ct, Bt]
    exact pl th9 hb3
  apply gF
  · rfl
  · intro hg; try simp only [hg, ct]; try simp only [hg, ct, Bt]
    exact ps
  refine uO ?_
  refine um ?_
  apply gF
  · rfl
  · intro hg
    exact pf th69 th67 hb2_3
  apply gF
  · rfl
  · intro hg; try simp only [hg, ct]; try simp only [hg, ct, Bt]
    exact pl th67 hb2_3
  apply gF
  · rfl
  · intro hg; try simp only [hg, ct]; try simp only [hg, ct, Bt]
    exact pn th67
  apply gF
  · rfl
  · intro hg
    exact pf th69 th67 hb3
  apply gF
  · rfl
  · intro hg; try simp only [hg, ct]; try simp only [hg, ct, Bt]
    exact pl th67 hb3
  apply gF
  · rfl
  · intro hg; try simp only [hg, ct]; try simp only [hg, ct, Bt]
    exact pn th67
  apply gF
  · rfl
  · intro hg; try simp only [hg, ct]; try simp only [hg, ct, Bt]
    exact pb
  refine uO ?_
  refine um ?_
  apply gF
  · rfl
  · intro hg
    exact pf th69 th60 hb2_3
  apply gF
  · rfl
  · intro hg; try simp only [hg, ct]; try simp only [hg, ct, Bt]
    exact pl th60 hb2_3
  apply gF
  · rfl
  · intro hg; try simp only [hg, ct]; try simp only [hg, ct, Bt]
    exact pn th60
  apply gF
  · rfl
  · intro hg
    exact pf th69 th60 hb3
  apply gF
  · rfl
  · intro hg; try simp only [hg, ct]; try simp only [hg, ct, Bt]
    exact pl th60 hb3
  apply gF
  · rfl
  · intro hg; try simp only [hg, ct]; try simp only [hg, ct, Bt]
    exact pn th60
  apply gF
  · rfl
  · intro hg; try simp only [hg, ct]; try simp only [hg, ct, Bt]
    exact pb
  refine uO ?_
  refine u_nil ?_
  refine wc (fun hc6 => ?_) (fun hc6 => ?_) <;> try simp only [Q0, Q1, Q2, Q3, Q4, Q5, Q6, Q7, Q8, ge_iff_le, gt_iff_lt] at hc6
  ·
   refine wr ?_
   refine ua ?_
   refine u_nil ?_
   refine WP.ret ?_
   refine ret_ok rfl ?_ (by omega) (fun t ht => (hk3 t (by omega)).trans ((hk2 t (by omega))))
   -- ret 1
   clear hK4
   refine congrArg D.bool (same_ne ?_).symm
   intro e
   simp only [Val.mk.injEq] at e
   obtain ⟨rfl, rfl, rfl, rfl, rfl⟩ := e
   simp at hc6
  ·
   have hq := hc6
   simp [encVs_length] at hq
   obtain ⟨⟨⟨⟨q1, q2⟩, q3⟩, q4⟩, q5⟩ := hq
   refine WP.skip ?_
   refine hK4 _ ?_
   refine WP.seq fun K8 hK8 => ?_
   refine wr ?_
   refine ua ?_
   refine u_nil ?_
   refine WP.block ?_
   refine WP.loopL (ι := Nat) (fun i => ⟨al [(2, .loc nk 0), (3, .loc (nk + 1) 0), (5, .d (.int .i64 i))], o3, ((nk + 1) + 1)⟩) (fun i => i ≤ xs.length ∧ ∀ (j : Nat) (hj : j < xs.length) (hk : j < ys.length), j < i → xs[j] = ys[j]) (fun i => xs.length - i) (fun i hA => ?_) 0 ?_ ?_
   ·
    obtain ⟨hle_i, hin_i⟩ := hA
    refine WP.seq fun K10 hK10 => ?_
    refine wr ?_
    refine um ?_
    refine uf th69 th67 hb2_3 ?_
    refine ul th67 hb2_3 ?_
    refine un th67 ?_
    refine ub ?_
    refine u_nil ?_
    refine wc (fun hc12 => ?_) (fun hc12 => ?_) <;> try simp only [Q0, Q1, Q2, Q3, Q4, Q5, Q6, Q7, Q8, ge_iff_le, gt_iff_lt] at hc12
    ·
     refine WP.skip ?_
     refine hK10 _ ?_
     refine WP.seq fun K13 hK13 => ?_
     refine WP.block ?_
     refine wd ?_
     refine df th69 th67 hb2_3 ?_
     refine dl th67 hb2_3 ?_
     refine dm ?_
     first | refine d_step (o_ia_map rfl rfl th67 rfl th69 rfl (by omega) ⟨rfl, rfl, rfl⟩) ?_ | refine d_step (o_ia_vs rfl rfl th67 rfl th69 rfl (by omega) ⟨rfl, rfl, rfl⟩) ?_
     refine dL th69 ?_
     refine df th69 th67 hb3 ?_
     refine dl th67 hb3 ?_
     refine dm ?_
     first | refine d_step (o_ia_map rfl rfl th67 rfl th69 rfl (by omega) ⟨rfl, rfl, rfl⟩) ?_ | refine d_step (o_ia_vs rfl rfl th67 rfl th69 rfl (by omega) ⟨rfl, rfl, rfl⟩) ?_
     refine dL th69 ?_
     refine d_step (o_pcall (ih _ _ (by exact items_lt' (by omega) hv)) rfl ⟨rfl, rfl, rfl⟩) ?_
     refine dN ?_
     refine d_nil ?_
     refine wc (fun hc15 => ?_) (fun hc15 => ?_) <;> try simp only [Q0, Q1, Q2, Q3, Q4, Q5, Q6, Q7, Q8, ge_iff_le, gt_iff_lt] at hc15
     ·
      refine wr ?_
      refine ua ?_
      refine u_nil ?_
      refine WP.ret ?_
      refine ret_ok rfl ?_ (by omega) (fun t ht => (hk3 t (by omega)).trans ((hk2 t (by omega))))
      -- ret 2
      clear hK4 hK8 hK10 hK13
      refine congrArg D.bool (same_ne ?_).symm
      intro e
      simp only [Val.mk.injEq] at e
      obtain ⟨rfl, rfl, rfl, rfl, rfl⟩ := e
      rw [same_refl] at hc15; cases hc15
     ·
      refine WP.skip ?_
      refine hK13 _ ?_
      refine WP.reg tabOk rfl ?_
      refine um ?_
      refine ub ?_
      refine ua ?_
      refine u_nil ?_
      -- back
      refine ⟨i + 1, ⟨by omega, ?_⟩, by omega, ?_⟩
      · intro j hj hk h1
        by_cases h2 : j = i
        · subst h2; exact same_eq.1 (by simpa using hc15)
        · exact hin_i j hj hk (by omega)
      · refine Le.al ?_
        simp only [List.forall_mem_cons]
        exact ⟨rfl, rfl, cnt (by omega), by simp⟩
    ·
     refine WP.exit ?_
     refine hK8 _ ?_
     refine WP.seq fun K17 hK17 => ?_
     refine wr ?_
     refine ua ?_
     refine u_nil ?_
     refine WP.block ?_
     refine WP.loopL (ι := Nat) (fun j => ⟨al [(2, .loc nk 0), (3, .loc (nk + 1) 0), (6, .d (.int .i64 j))], o3, ((nk + 1) + 1)⟩) (fun j => j ≤ ns.length ∧ ∀ (a : Nat) (hj : a < ns.length) (hk : a < ms.length), a < j → ns[a] = ms[a]) (fun j => ns.length - j) (fun j hA => ?_) 0 ?_ ?_
     ·
      obtain ⟨hle_j, hin_j⟩ := hA
      refine WP.seq fun K19 hK19 => ?_
      refine wr ?_
      refine um ?_
      refine uf th69 th60 hb2_3 ?_
      refine ul th60 hb2_3 ?_
      refine un th60 ?_
      refine ub ?_
      refine u_nil ?_
      refine wc (fun hc21 => ?_) (fun hc21 => ?_) <;> try simp only [Q0, Q1, Q2, Q3, Q4, Q5, Q6, Q7, Q8, ge_iff_le, gt_iff_lt] at hc21
      ·
       refine WP.skip ?_
       refine hK19 _ ?_
       refine WP.seq fun K22 hK22 => ?_
       refine WP.block ?_
       refine wd ?_
       refine df th69 th60 hb2_3 ?_
       refine dl th60 hb2_3 ?_
       refine dm ?_
       first | refine d_step (o_ia_map rfl rfl th60 rfl th9 rfl (by omega) ⟨rfl, rfl, rfl⟩) ?_ | refine d_step (o_ia_vs rfl rfl th60 rfl th9 rfl (by omega) ⟨rfl, rfl, rfl⟩) ?_
       refine dL th9 ?_
       refine df th69 th60 hb3 ?_
       refine dl th60 hb3 ?_
       refine dm ?_
       first | refine d_step (o_ia_map rfl rfl th60 rfl th9 rfl (by omega) ⟨rfl, rfl, rfl⟩) ?_ | refine d_step (o_ia_vs rfl rfl th60 rfl th9 rfl (by omega) ⟨rfl, rfl, rfl⟩) ?_
       refine dL th9 ?_
       refine ds ?_
       refine d_nil ?_
       refine wc (fun hc24 => ?_) (fun hc24 => ?_) <;> try simp only [Q0, Q1, Q2, Q3, Q4, Q5, Q6, Q7, Q8, ge_iff_le, gt_iff_lt] at hc24
       ·
        refine wr ?_
        refine ua ?_
        refine u_nil ?_
        refine WP.ret ?_
        refine ret_ok rfl ?_ (by omega) (fun t ht => (hk3 t (by omega)).trans ((hk2 t (by omega))))
        -- ret 3
        clear hK4 hK8 hK10 hK17 hK19 hK22
        refine congrArg D.bool (same_ne ?_).symm
        intro e
        simp only [Val.mk.injEq] at e
        obtain ⟨rfl, rfl, rfl, rfl, rfl⟩ := e
        simp at hc24
       ·
        refine WP.skip ?_
        refine hK22 _ ?_
        refine WP.reg tabOk rfl ?_
        refine um ?_
        refine ub ?_
        refine ua ?_
        refine u_nil ?_
        -- back
        refine ⟨j + 1, ⟨by omega, ?_⟩, by omega, ?_⟩
        · intro a ha hk h1
          by_cases h2 : a = j
          · subst h2; simpa using hc24
          · exact hin_j a ha hk (by omega)
        · refine Le.al ?_
          simp only [List.forall_mem_cons]
          exact ⟨rfl, rfl, cnt (by omega), by simp⟩
      ·
       refine WP.exit ?_
       refine hK17 _ ?_
       refine wr ?_
       refine ua ?_
       refine u_nil ?_
       refine WP.ret ?_
       refine ret_ok rfl ?_ (by omega) (fun t ht => (hk3 t (by omega)).trans ((hk2 t (by omega))))
       -- ret 4
       have e1 : xs = ys := List.ext_getElem (by omega) fun j h1 h2 => hin_i j h1 h2 (by omega)
       have e2 : ns = ms := List.ext_getElem (by omega) fun j h1 h2 => hin_j j h1 h2 (by omega)
       rw [q1, q2, q3, e1, e2, same_refl]
     ·
      simp
     ·
      refine Le.al ?_
      simp only [List.forall_mem_cons]
      exact ⟨rfl, rfl, rfl, by simp⟩
   ·
    simp
   ·
    refine Le.al ?_
    simp only [List.forall_mem_cons]
    exact ⟨rfl, rfl, rfl, by simp⟩
theorem s96 (v w : Val) : PSpec Tryz.prog 96 [.d (encV v), .d (encV w)] (.d (.bool (sameV v w))) := s96A _ v w (Nat.lt_succ_self _)

theorem fn118 : FnOk Tryz.prog 118 6 [2] (bodyOf Tryz.f118) := ⟨Tryz.f118, Tryz.func118, by kernel_rfl, by decide, by kernel_rfl, by kernel_rfl⟩
theorem s118 (v : Val) : PSpec Tryz.prog 118 [.d (encV v)] (.d (.bool (noneV v))) := by
 obtain ⟨kd, it, tx, xs, ns⟩ := v
 refine PSpec.of fn118 (by simp) fun o nk => ?_
 refine wr ?_
 refine u_step (g_box rfl fun o2 hb2 hk2 => ?_)
 refine ua ?_
 refine u_nil ?_
 refine wr ?_
 refine ug th69 hb2 ?_
 refine u_step (o_bu rfl th69 rfl rfl ?_)
 refine u_step (o_pcall (PSpec.le (s96 (.mk kd it tx xs ns) (.mk 0 0 [] [] [])) (by refine ⟨D.le_refl _, ?_, trivial⟩; show D.le (.agg [.int .i64 0, .int .i64 0, .str [], .nil, .nil]) (encV (.mk 0 0 [] [] [])); simp [D.le, D.les, encV, encVs])) rfl ?_)
 refine ua ?_
 refine u_nil ?_
 refine WP.ret ?_
 refine ret_ok rfl ?_ (by omega) (fun t ht => (hk2 t (by omega)))
 -- ret 1
 rw [none_same]

end Go.Proofs.YtmielecljgfnaaaGreat.Abs

set_option linter.unusedVariables false
set_option linter.unusedSimpArgs false
set_option maxRecDepth 10000
namespace Go.Proofs.YtmielecljgfnaaaGreat.Abs
open Go
theorem o_ia_mapG {P : Program} {Θ : Tab} {K : SV → (Nat → Option AO) → Nat → Prop} {sl : Nat → SV} {o : Nat → Option AO} {nk : Nat} {x ix : Operand} {t e : Nat} {α : Type} {i j : TI} {z : Nat} {xs : List α} {g : α → D} {k : IntKind} {m : Nat} (d0 : α) (hx : ev sl x = .d (.sl z (xs.map g))) (hy : ev sl ix = .d (.int k (m : Int))) (hi : Θ t = some i) (hk : i.k = .slice e) (hj : Θ e = some j) (hz : z = j.sz) (hlt : m < xs.length) (h : K (.el (g (xs.getD m d0))) o nk) : vOp P Θ (.indexAddr t x ix) ⟨sl, o, nk⟩ K := by
  have hg : xs.getD m d0 = xs[m]'hlt := by simp [hlt]
  rw [hg] at h
  exact o_ia_map hx hy hi hk hj hz hlt h
theorem begins_yes {a b : List Str} (hl : a.length ≤ b.length) (h : ∀ (j : Nat) (hj : j < a.length) (hk : j < b.length), a[j] = b[j]) : beginsV a b = true := by
  unfold beginsV
  rw [decide_eq_true_eq, List.prefix_iff_eq_take]
  refine List.ext_getElem (by simp; omega) fun j h1 h2 => ?_
  rw [List.getElem_take]
  exact h j h1 (by omega)
theorem begins_no {a b : List Str} {i : Nat} (h : i < a.length) (hb : b.length ≤ i ∨ ∃ hk : i < b.length, a[i] ≠ b[i]) : beginsV a b = false := by
  unfold beginsV
  rw [decide_eq_false_iff_not]
  intro hp
  have hl := hp.length_le
  rcases hb with hb | ⟨hk, hb⟩
  · omega
  · exact hb (hp.getElem h)

theorem fn220 : FnOk Tryz.prog 220 27 [4] (bodyOf Tryz.f220) := ⟨Tryz.f220, Tryz.func220, by kernel_rfl, by decide, by kernel_rfl, by kernel_rfl⟩
theorem s220 (a b : List Str) : PSpec Tryz.prog 220 [.d (.sl 1 (a.map .str)), .d (.sl 1 (b.map .str))] (.d (.bool (beginsV a b))) := by
 refine PSpec.bd fun hbd => ?_
 have hx : a.length ≤ 9223372036854775807 := by simpa using hbd.1.1
 refine PSpec.of fn220 (by simp) fun o nk => ?_
 refine wr ?_
 refine ua ?_
 refine u_nil ?_
 refine WP.seq fun K2 hK2 => ?_
 refine wr ?_
 refine ua ?_
 refine u_nil ?_
 refine WP.block ?_
 refine WP.loopL (ι := Nat) (fun i => ⟨al [(0, .d (.sl 1 (a.map .str))), (1, .d (.sl 1 (b.map .str))), (5, .d (.int .i64 i))], o, nk⟩) (fun i => i ≤ a.length ∧ i ≤ b.length ∧ ∀ (j : Nat) (hj : j < a.length) (hk : j < b.length), j < i → a[j] = b[j]) (fun i => a.length - i) (fun i hA => ?_) 0 ?_ ?_
 ·
  obtain ⟨hle_i, hin_i⟩ := hA
  refine WP.seq fun K4 hK4 => ?_
  refine wr ?_
  refine um ?_
  refine um ?_
  refine un th60 ?_
  refine ub ?_
  refine u_nil ?_
  refine wc (fun hc6 => ?_) (fun hc6 => ?_) <;> try simp only [Q0, Q1, Q2, Q3, Q4, Q5, Q6, Q7, Q8, ge_iff_le, gt_iff_lt] at hc6
  ·
   refine WP.skip ?_
   refine hK4 _ ?_
   refine WP.seq fun K7 hK7 => ?_
   refine WP.block ?_
   refine wd ?_
   refine dm ?_
   refine dm ?_
   refine dn th60 ?_
   refine db ?_
   refine dm ?_
   apply d_guard
   · exact GC.f _
   · intro hg
     exact pm
   apply d_guard
   · exact GC.f _
   · intro hg
     exact pm
   apply d_guard
   · exact GC.f _
   · intro hg; try simp only [hg, ct]; try simp only [hg, ct, Bt]
     have hg2 := hg; try simp only [Q0, Q1, Q2, Q3, Q4, Q5, Q6, Q9, Qa, Qb, Qc, Qd] at hg2
     first | refine o_ia_map rfl rfl th60 rfl th9 rfl (by omega) ⟨rfl, rfl, rfl⟩ | refine o_ia_vs rfl rfl th60 rfl th9 rfl (by omega) ⟨rfl, rfl, rfl⟩
   apply d_guard
   · exact GC.f _
   · intro hg; try simp only [hg, ct]; try simp only [hg, ct, Bt]
     exact pL th9
   apply d_guard
   · exact GC.f _
   · intro hg
     exact pm
   apply d_guard
   · exact GC.f _
   · intro hg
     exact pm
   apply d_guard
   · exact GC.f _
   · intro hg; try simp only [hg, ct]; try simp only [hg, ct, Bt]
     have hg2 := hg; try simp only [Q0, Q1, Q2, Q3, Q4, Q5, Q6, Q9, Qa, Qb, Qc, Qd] at hg2
     refine o_ia_mapG (xs := b) ([] : Str) rfl rfl th60 rfl th9 rfl (by omega) ⟨rfl, rfl, rfl⟩
   apply d_guard
   · exact GC.f _
   · intro hg; try simp only [hg, ct]; try simp only [hg, ct, Bt]
     exact pL th9
   apply d_guard
   · exact GC.f _
   · intro hg; try simp only [hg, ct]; try simp only [hg, ct, Bt]
     exact ps
   refine dO ?_
   refine d_nil ?_
   refine wc (fun hc9 => ?_) (fun hc9 => ?_) <;> try simp only [Q0, Q1, Q2, Q3, Q4, Q5, Q6, Q7, Q8, ge_iff_le, gt_iff_lt] at hc9
   ·
    refine wr ?_
    refine ua ?_
    refine u_nil ?_
    refine WP.ret ?_
    refine ret_ok rfl ?_ (by omega) (fun _ _ => rfl)
    -- ret 1
    rw [begins_no (by omega) ?_]
    by_cases hb : b.length ≤ i
    · exact .inl hb
    · have hk : i < b.length := by omega
      exact .inr ⟨hk, by simpa [hb, hk] using hc9⟩
   ·
    refine WP.skip ?_
    refine hK7 _ ?_
    refine WP.reg tabOk rfl ?_
    refine um ?_
    refine ub ?_
    refine ua ?_
    refine u_nil ?_
    -- back
    refine ⟨i + 1, ⟨by omega, ?_⟩, by omega, ?_⟩
    · have hq := Bool.or_eq_false_iff.1 hc9
      have hq1 : ¬ b.length ≤ i := by simpa using hq.1
      refine ⟨by omega, fun j hj hk h1 => ?_⟩
      by_cases h2 : j = i
      · subst h2; simpa [hk] using hq.2
      · exact hin_i.2 j hj hk (by omega)
    · refine Le.al ?_
      simp only [List.forall_mem_cons]
      exact ⟨rfl, rfl, cnt (by omega), by simp⟩
  ·
   refine WP.exit ?_
   refine hK2 _ ?_
   refine wr ?_
   refine ua ?_
   refine u_nil ?_
   refine WP.ret ?_
   refine ret_ok rfl ?_ (by omega) (fun _ _ => rfl)
   -- ret 2
   rw [begins_yes (by omega) fun j hj hk => hin_i.2 j hj hk (by omega)]
 ·
  simp
 ·
  refine Le.al ?_
  simp only [List.forall_mem_cons]
  exact ⟨rfl, rfl, rfl, by simp⟩

theorem fn209 : FnOk Tryz.prog 209 26 [4] (bodyOf Tryz.f209) := ⟨Tryz.f209, Tryz.func209, by kernel_rfl, by decide, by kernel_rfl, by kernel_rfl⟩
theorem s209 (a b : List Str) : PSpec Tryz.prog 209 [.d (.sl 1 (a.map .str)), .d (.sl 1 (b.map .str))] (.d (.bool (decide (a = b)))) := by
 refine PSpec.bd fun hbd => ?_
 have hx : a.length ≤ 9223372036854775807 := by simpa using hbd.1.1
 refine PSpec.of fn209 (by simp) fun o nk => ?_
 refine wr ?_
 refine ua ?_
 refine u_nil ?_
 refine WP.seq fun K2 hK2 => ?_
 refine wr ?_
 refine um ?_
 refine un th60 ?_
 refine um ?_
 refine un th60 ?_
 refine ub ?_
 refine u_nil ?_
 refine wc (fun hc4 => ?_) (fun hc4 => ?_) <;> try simp only [Q0, Q1, Q2, Q3, Q4, Q5, Q6, Q7, Q8, ge_iff_le, gt_iff_lt] at hc4
 ·
  refine wr ?_
  refine ua ?_
  refine u_nil ?_
  refine WP.ret ?_
  refine ret_ok rfl ?_ (by omega) (fun _ _ => rfl)
  -- ret 1
  refine congrArg D.bool (Eq.symm (decide_eq_false fun e => ?_))
  subst e
  simp at hc4
 ·
  have hl : a.length = b.length := by simp at hc4; omega
  refine WP.skip ?_
  refine hK2 _ ?_
  refine WP.seq fun K6 hK6 => ?_
  refine wr ?_
  refine um ?_
  refine un th60 ?_
  refine um ?_
  refine u_nil ?_
  refine WP.block ?_
  refine WP.loopL (ι := Nat) (fun i => ⟨al [(0, .d (.sl 1 (a.map .str))), (1, .d (.sl 1 (b.map .str))), (12, .d (.int .i64 (a.map D.str).length)), (13, .d (.int .i64 i))], o, nk⟩) (fun i => i ≤ a.length ∧ ∀ (j : Nat) (hj : j < a.length) (hk : j < b.length), j < i → a[j] = b[j]) (fun i => a.length - i) (fun i hA => ?_) 0 ?_ ?_
  ·
   obtain ⟨hle_i, hin_i⟩ := hA
   refine wr ?_
   refine ub ?_
   refine u_nil ?_
   refine WP.seq fun K9 hK9 => ?_
   refine wc (fun hc10 => ?_) (fun hc10 => ?_) <;> try simp only [Q0, Q1, Q2, Q3, Q4, Q5, Q6, Q7, Q8, ge_iff_le, gt_iff_lt] at hc10
   ·
    refine WP.skip ?_
    refine hK9 _ ?_
    refine WP.seq fun K11 hK11 => ?_
    refine WP.block ?_
    refine wr ?_
    refine um ?_
    refine ua ?_
    refine u_nil ?_
    refine wd ?_
    refine dm ?_
    refine dm ?_
    first | refine d_step (o_ia_map rfl rfl th60 rfl th9 rfl (by omega) ⟨rfl, rfl, rfl⟩) ?_ | refine d_step (o_ia_vs rfl rfl th60 rfl th9 rfl (by omega) ⟨rfl, rfl, rfl⟩) ?_
    refine dL th9 ?_
    refine dm ?_
    refine dm ?_
    first | refine d_step (o_ia_map rfl rfl th60 rfl th9 rfl (by omega) ⟨rfl, rfl, rfl⟩) ?_ | refine d_step (o_ia_vs rfl rfl th60 rfl th9 rfl (by omega) ⟨rfl, rfl, rfl⟩) ?_
    refine dL th9 ?_
    refine ds ?_
    refine d_nil ?_
    refine wc (fun hc14 => ?_) (fun hc14 => ?_) <;> try simp only [Q0, Q1, Q2, Q3, Q4, Q5, Q6, Q7, Q8, ge_iff_le, gt_iff_lt] at hc14
    ·
     refine wr ?_
     refine ua ?_
     refine u_nil ?_
     refine WP.ret ?_
     refine ret_ok rfl ?_ (by omega) (fun _ _ => rfl)
     -- ret 2
     refine congrArg D.bool (Eq.symm (decide_eq_false fun e => ?_))
     subst e
     simp at hc14
    ·
     refine WP.skip ?_
     refine hK11 _ ?_
     refine WP.reg tabOk rfl ?_
     refine ub ?_
     refine um ?_
     refine u_nil ?_
     -- back
     refine ⟨i + 1, ⟨by omega, ?_⟩, by omega, ?_⟩
     · intro j hj hk h1
       by_cases h2 : j = i
       · subst h2; simpa using hc14
       · exact hin_i j hj hk (by omega)
     · refine Le.al ?_
       simp only [List.forall_mem_cons]
       exact ⟨rfl, rfl, rfl, cnt (by omega), by simp⟩
   ·
    refine WP.exit ?_
    refine hK6 _ ?_
    refine wr ?_
    refine ua ?_
    refine u_nil ?_
    refine WP.ret ?_
    refine ret_ok rfl ?_ (by omega) (fun _ _ => rfl)
    -- ret 3
    refine congrArg D.bool (Eq.symm (decide_eq_true ?_))
    exact List.ext_getElem hl fun j h1 h2 => hin_i j h1 h2 (by omega)
  ·
   simp
  ·
   refine Le.al ?_
   simp only [List.forall_mem_cons]
   exact ⟨rfl, rfl, rfl, rfl, by simp⟩

theorem fn171 : FnOk Tryz.prog 171 15 [4] (bodyOf Tryz.f171) := ⟨Tryz.f171, Tryz.func171, by kernel_rfl, by decide, by kernel_rfl, by kernel_rfl⟩
theorem s171 (a b : List Str) : PSpec Tryz.prog 171 [.d (.sl 1 (a.map .str)), .d (.sl 1 (b.map .str))] (.d (.bool (decide (a = b)))) := by
 refine PSpec.of fn171 (by simp) fun o nk => ?_
 refine wr ?_
 refine ua ?_
 refine u_nil ?_
 refine wr ?_
 refine um ?_
 refine un th60 ?_
 refine um ?_
 refine un th60 ?_
 refine ub ?_
 refine um ?_
 apply gT
 · rfl
 · intro hg
   exact pm
 apply gT
 · rfl
 · intro hg
   exact pm
 apply gT
 · rfl
 · intro hg; try simp only [hg, ct]; try simp only [hg, ct, Bt]
   refine o_pcall (s220 _ _) rfl ⟨rfl, rfl, rfl⟩
 refine uA ?_
 refine ua ?_
 refine u_nil ?_
 refine WP.ret ?_
 refine ret_ok rfl ?_ (by omega) (fun _ _ => rfl)
 -- ret 1
 refine congrArg D.bool ?_
 rw [Bool.eq_iff_iff]
 simp only [Bool.and_eq_true, beq_iff_eq, List.length_map, decide_eq_true_eq, beginsV]
 constructor
 · rintro ⟨h1, h2⟩; exact h2.eq_of_length (by omega)
 · rintro rfl; exact ⟨rfl, List.prefix_refl _⟩

theorem s209t (a b : List Str) (m : Nat) : PSpec Tryz.prog 209 [.d (.sl 1 (a.map .str)), .d (.sl 1 (((b.map .str).take m).drop 0))] (.d (.bool (decide (a = b.take m)))) := by
  have := s209 a (b.take m)
  rwa [List.map_take] at this
end Go.Proofs.YtmielecljgfnaaaGreat.Abs

set_option linter.unusedVariables false
set_option linter.unusedSimpArgs false
set_option maxRecDepth 10000
namespace Go.Proofs.YtmielecljgfnaaaGreat.Abs
open Go
def meetV (a b : List Str) : Bool := beginsV a b || beginsV b a

theorem fn305 : FnOk Tryz.prog 305 18 [4] (bodyOf Tryz.f305) := ⟨Tryz.f305, Tryz.func305, by kernel_rfl, by decide, by kernel_rfl, by kernel_rfl⟩
theorem s305 (a b : List Str) : PSpec Tryz.prog 305 [.d (.sl 1 (a.map .str)), .d (.sl 1 (b.map .str))] (.d (.bool (beginsV a b))) := by
 refine PSpec.of fn305 (by simp) fun o nk => ?_
 refine wr ?_
 refine ua ?_
 refine u_nil ?_
 refine wr ?_
 refine um ?_
 refine un th60 ?_
 refine um ?_
 refine un th60 ?_
 refine ub ?_
 refine um ?_
 apply gT
 · rfl
 · intro hg
   exact pm
 apply gT
 · rfl
 · intro hg
   exact pm
 apply gT
 · rfl
 · intro hg
   exact pm
 apply gT
 · rfl
 · intro hg; try simp only [hg, ct]; try simp only [hg, ct, Bt]
   exact pn th60
 apply gT
 · rfl
 · intro hg; try simp only [hg, ct]; try simp only [hg, ct, Bt]
   have hg2 := hg; try simp only [Q0, Q1, Q2, Q3, Q4, Q5, Q6, Q9, Qa, Qb, Qc, Qd] at hg2
   refine o_sl_sl (m := (a.map D.str).length) (p := 0) rfl th60 rfl th9 rfl (bnd_nat (by simp only [List.length_map]; omega)) rfl ⟨rfl, rfl, rfl⟩
 apply gT
 · rfl
 · intro hg; try simp only [hg, ct]; try simp only [hg, ct, Bt]
   refine o_pcall (s209t a b _) rfl ⟨rfl, rfl, rfl⟩
 refine uA ?_
 refine ua ?_
 refine u_nil ?_
 refine WP.ret ?_
 refine ret_ok rfl ?_ (by omega) (fun _ _ => rfl)
 -- ret 1
 refine congrArg D.bool ?_
 rw [Bool.eq_iff_iff]
 simp only [Bool.and_eq_true, decide_eq_true_eq, List.length_map, beginsV, List.prefix_iff_eq_take]
 constructor
 · rintro ⟨_, h⟩; exact h
 · intro h; refine ⟨?_, h⟩; have := congrArg List.length h; simp at this; omega

theorem fn290 : FnOk Tryz.prog 290 13 [4] (bodyOf Tryz.f290) := ⟨Tryz.f290, Tryz.func290, by kernel_rfl, by decide, by kernel_rfl, by kernel_rfl⟩
theorem s290 (a b : List Str) : PSpec Tryz.prog 290 [.d (.sl 1 (a.map .str)), .d (.sl 1 (b.map .str))] (.d (.bool (meetV a b))) := by
 refine PSpec.of fn290 (by simp) fun o nk => ?_
 refine wr ?_
 refine ua ?_
 refine u_nil ?_
 refine wr ?_
 refine um ?_
 refine um ?_
 refine u_step (o_pcall (s305 _ _) rfl ?_)
 refine um ?_
 apply gF
 · rfl
 · intro hg
   exact pm
 apply gF
 · rfl
 · intro hg
   exact pm
 apply gF
 · rfl
 · intro hg; try simp only [hg, ct]; try simp only [hg, ct, Bt]
   refine o_pcall (s305 _ _) rfl ⟨rfl, rfl, rfl⟩
 refine uO ?_
 refine ua ?_
 refine u_nil ?_
 refine WP.ret ?_
 refine ret_ok rfl ?_ (by omega) (fun _ _ => rfl)
 -- ret 1
 rfl

end Go.Proofs.YtmielecljgfnaaaGreat.Abs

set_option linter.unusedVariables false
set_option linter.unusedSimpArgs false
set_option maxRecDepth 10000
namespace Go.Proofs.YtmielecljgfnaaaGreat.Abs
open Go
/-- A change that may be. -/
def mayD (d : Dlt) : Bool := pathV d.path && (if d.kind = 1 then decide (checkV d.value = 0) && decide (d.n = 0) else if d.kind = 2 then noneV d.value && decide (d.n = 0) else if d.kind = 3 then noneV d.value && decide (0 ≤ d.n) && decide (d.n ≤ 999) else false)
def okD (d : Dlt) : Prop := rngV d.value ∧ szV d.value ≤ 1099511627776
def checkD (l : List Dlt) : Int := if 64 < l.length then 3 else if l.all mayD then 0 else 1
theorem none_le (v : Val) : SV.les [.d (.agg (valCells v)), .d (.agg [.int .i64 0, .int .i64 0, .str [], .nil, .nil])] [.d (encV v), .d (encV (.mk 0 0 [] [] []))] := by
  refine ⟨?_, ?_, trivial⟩
  · show D.le (.agg (valCells v)) (encV v)
    rw [encV_eq]; exact D.le_refl _
  · show D.le (.agg [.int .i64 0, .int .i64 0, .str [], .nil, .nil]) (encV (.mk 0 0 [] [] []))
    simp [D.le, D.les, encV, encVs]
theorem s96n (v : Val) : PSpec Tryz.prog 96 [.d (.agg (valCells v)), .d (.agg [.int .i64 0, .int .i64 0, .str [], .nil, .nil])] (.d (.bool (noneV v))) := by
  have := PSpec.le (s96 v (.mk 0 0 [] [] [])) (none_le v)
  rwa [none_same] at this

theorem fn230 : FnOk Tryz.prog 230 45 [2] (bodyOf Tryz.f230) := ⟨Tryz.f230, Tryz.func230, by kernel_rfl, by decide, by kernel_rfl, by kernel_rfl⟩
theorem s230 (d : Dlt) (hd : okD d) : PSpec Tryz.prog 230 [.d (encD d)] (.d (.bool (mayD d))) := by
 refine PSpec.of fn230 (by simp) fun o nk => ?_
 refine wr ?_
 refine u_step (g_box rfl fun o2 hb2 hk2 => ?_)
 refine ua ?_
 refine u_nil ?_
 refine WP.seq fun K3 hK3 => ?_
 refine wr ?_
 refine uf th183 th60 hb2 ?_
 refine ul th60 hb2 ?_
 refine u_step (o_pcall (s197 _) rfl ?_)
 refine uN ?_
 refine u_nil ?_
 refine wc (fun hc5 => ?_) (fun hc5 => ?_) <;> try simp only [Q0, Q1, Q2, Q3, Q4, Q5, Q6, Q7, Q8, ge_iff_le, gt_iff_lt] at hc5
 ·
  refine wr ?_
  refine ua ?_
  refine u_nil ?_
  refine WP.ret ?_
  refine ret_ok rfl ?_ (by omega) (fun t ht => (hk2 t (by omega)))
  -- ret 1
  clear hK3
  refine congrArg D.bool ?_
  simp only [mayD]
  grind
 ·
  refine WP.skip ?_
  refine hK3 _ ?_
  refine WP.seq fun K7 hK7 => ?_
  refine wr ?_
  refine uf th183 th3 hb2 ?_
  refine ul th3 hb2 ?_
  refine u_nil ?_
  refine WP.block ?_
  refine wr ?_
  refine ub ?_
  refine ua ?_
  refine u_nil ?_
  refine wc (fun hc10 => ?_) (fun hc10 => ?_) <;> try simp only [Q0, Q1, Q2, Q3, Q4, Q5, Q6, Q7, Q8, ge_iff_le, gt_iff_lt] at hc10
  ·
   refine wr ?_
   refine uf th183 th69 hb2 ?_
   refine ug th69 hb2 ?_
   refine u_step (o_pcall (pv (v := d.value) (s164 d.value hd.1 hd.2)) rfl ?_)
   refine ub ?_
   refine um ?_
   apply gT
   · rfl
   · intro hg
     exact pf th183 th3 hb2
   apply gT
   · rfl
   · intro hg; try simp only [hg, ct]; try simp only [hg, ct, Bt]
     exact pl th3 hb2
   apply gT
   · rfl
   · intro hg; try simp only [hg, ct]; try simp only [hg, ct, Bt]
     exact pb
   refine uA ?_
   refine ua ?_
   refine u_nil ?_
   refine WP.ret ?_
   refine ret_ok rfl ?_ (by omega) (fun t ht => (hk2 t (by omega)))
   -- ret 2
   clear hK3 hK7
   refine congrArg D.bool ?_
   simp only [mayD]
   grind
  ·
   refine wr ?_
   refine ub ?_
   refine ua ?_
   refine u_nil ?_
   refine wc (fun hc13 => ?_) (fun hc13 => ?_) <;> try simp only [Q0, Q1, Q2, Q3, Q4, Q5, Q6, Q7, Q8, ge_iff_le, gt_iff_lt] at hc13
   ·
    refine wr ?_
    refine uf th183 th69 hb2 ?_
    refine ug th69 hb2 ?_
    refine u_step (o_pcall (pv (v := d.value) (s268 d.value hd.2)) rfl ?_)
    refine um ?_
    apply gT
    · rfl
    · intro hg
      exact pf th183 th3 hb2
    apply gT
    · rfl
    · intro hg; try simp only [hg, ct]; try simp only [hg, ct, Bt]
      exact pl th3 hb2
    apply gT
    · rfl
    · intro hg; try simp only [hg, ct]; try simp only [hg, ct, Bt]
      exact pb
    refine uA ?_
    refine ua ?_
    refine u_nil ?_
    refine WP.ret ?_
    refine ret_ok rfl ?_ (by omega) (fun t ht => (hk2 t (by omega)))
    -- ret 3
    clear hK3 hK7
    refine congrArg D.bool ?_
    simp only [mayD]
    grind
   ·
    refine wr ?_
    refine ub ?_
    refine ua ?_
    refine u_nil ?_
    refine wc (fun hc16 => ?_) (fun hc16 => ?_) <;> try simp only [Q0, Q1, Q2, Q3, Q4, Q5, Q6, Q7, Q8, ge_iff_le, gt_iff_lt] at hc16
    ·
     refine wr ?_
     refine uf th183 th69 hb2 ?_
     refine ug th69 hb2 ?_
     refine u_step (o_pcall (pv (v := d.value) (s268 d.value hd.2)) rfl ?_)
     refine um ?_
     apply gT
     · rfl
     · intro hg
       exact pf th183 th3 hb2
     apply gT
     · rfl
     · intro hg; try simp only [hg, ct]; try simp only [hg, ct, Bt]
       exact pl th3 hb2
     apply gT
     · rfl
     · intro hg; try simp only [hg, ct]; try simp only [hg, ct, Bt]
       exact pb
     refine uA ?_
     refine um ?_
     apply gT
     · rfl
     · intro hg
       exact pf th183 th3 hb2
     apply gT
     · rfl
     · intro hg; try simp only [hg, ct]; try simp only [hg, ct, Bt]
       exact pl th3 hb2
     apply gT
     · rfl
     · intro hg; try simp only [hg, ct]; try simp only [hg, ct, Bt]
       exact pb
     refine uA ?_
     refine ua ?_
     refine u_nil ?_
     refine WP.ret ?_
     refine ret_ok rfl ?_ (by omega) (fun t ht => (hk2 t (by omega)))
     -- ret 4
     clear hK3 hK7
     refine congrArg D.bool ?_
     simp only [mayD]
     grind
    ·
     refine WP.skip ?_
     refine hK7 _ ?_
     refine wr ?_
     refine ua ?_
     refine u_nil ?_
     refine WP.ret ?_
     refine ret_ok rfl ?_ (by omega) (fun t ht => (hk2 t (by omega)))
     -- ret 5
     clear hK3 hK7
     refine congrArg D.bool ?_
     simp only [mayD]
     grind

theorem fn190 : FnOk Tryz.prog 190 46 [2] (bodyOf Tryz.f190) := ⟨Tryz.f190, Tryz.func190, by kernel_rfl, by decide, by kernel_rfl, by kernel_rfl⟩
theorem s190 (d : Dlt) (hd : okD d) : PSpec Tryz.prog 190 [.d (encD d)] (.d (.bool (mayD d))) := by
 refine PSpec.of fn190 (by simp) fun o nk => ?_
 refine wr ?_
 refine u_step (g_box rfl fun o2 hb2 hk2 => ?_)
 refine ua ?_
 refine u_nil ?_
 refine WP.seq fun K3 hK3 => ?_
 refine wr ?_
 refine uf th183 th60 hb2 ?_
 refine ul th60 hb2 ?_
 refine u_step (o_pcall (s235 _) rfl ?_)
 refine uN ?_
 refine u_nil ?_
 refine wc (fun hc5 => ?_) (fun hc5 => ?_) <;> try simp only [Q0, Q1, Q2, Q3, Q4, Q5, Q6, Q7, Q8, ge_iff_le, gt_iff_lt] at hc5
 ·
  refine wr ?_
  refine ua ?_
  refine u_nil ?_
  refine WP.ret ?_
  refine ret_ok rfl ?_ (by omega) (fun t ht => (hk2 t (by omega)))
  -- ret 1
  clear hK3
  refine congrArg D.bool ?_
  simp only [mayD]
  grind
 ·
  refine WP.skip ?_
  refine hK3 _ ?_
  refine wr ?_
  refine uf th183 th69 hb2 ?_
  refine ug th69 hb2 ?_
  refine u_step (o_bu rfl th69 rfl rfl ?_)
  refine u_step (o_pcall (s96n d.value) rfl ?_)
  refine ua ?_
  refine u_nil ?_
  refine WP.seq fun K8 hK8 => ?_
  refine wr ?_
  refine uf th183 th3 hb2 ?_
  refine ul th3 hb2 ?_
  refine u_nil ?_
  refine WP.block ?_
  refine wr ?_
  refine ub ?_
  refine ua ?_
  refine u_nil ?_
  refine wc (fun hc11 => ?_) (fun hc11 => ?_) <;> try simp only [Q0, Q1, Q2, Q3, Q4, Q5, Q6, Q7, Q8, ge_iff_le, gt_iff_lt] at hc11
  ·
   refine wr ?_
   refine uf th183 th69 hb2 ?_
   refine ug th69 hb2 ?_
   refine u_step (o_pcall (pv (v := d.value) (s119 d.value hd.1 hd.2)) rfl ?_)
   refine ub ?_
   refine um ?_
   apply gT
   · rfl
   · intro hg
     exact pf th183 th3 hb2
   apply gT
   · rfl
   · intro hg; try simp only [hg, ct]; try simp only [hg, ct, Bt]
     exact pl th3 hb2
   apply gT
   · rfl
   · intro hg; try simp only [hg, ct]; try simp only [hg, ct, Bt]
     exact pb
   refine uA ?_
   refine ua ?_
   refine u_nil ?_
   refine WP.ret ?_
   refine ret_ok rfl ?_ (by omega) (fun t ht => (hk2 t (by omega)))
   -- ret 2
   clear hK3 hK8
   refine congrArg D.bool ?_
   simp only [mayD]
   grind
  ·
   refine wr ?_
   refine ub ?_
   refine ua ?_
   refine u_nil ?_
   refine wc (fun hc14 => ?_) (fun hc14 => ?_) <;> try simp only [Q0, Q1, Q2, Q3, Q4, Q5, Q6, Q7, Q8, ge_iff_le, gt_iff_lt] at hc14
   ·
    refine wr ?_
    refine um ?_
    refine um ?_
    apply gT
    · rfl
    · intro hg
      exact pf th183 th3 hb2
    apply gT
    · rfl
    · intro hg; try simp only [hg, ct]; try simp only [hg, ct, Bt]
      exact pl th3 hb2
    apply gT
    · rfl
    · intro hg; try simp only [hg, ct]; try simp only [hg, ct, Bt]
      exact pb
    refine uA ?_
    refine ua ?_
    refine u_nil ?_
    refine WP.ret ?_
    refine ret_ok rfl ?_ (by omega) (fun t ht => (hk2 t (by omega)))
    -- ret 3
    clear hK3 hK8
    refine congrArg D.bool ?_
    simp only [mayD]
    grind
   ·
    refine wr ?_
    refine ub ?_
    refine ua ?_
    refine u_nil ?_
    refine wc (fun hc17 => ?_) (fun hc17 => ?_) <;> try simp only [Q0, Q1, Q2, Q3, Q4, Q5, Q6, Q7, Q8, ge_iff_le, gt_iff_lt] at hc17
    ·
     refine wr ?_
     refine um ?_
     refine um ?_
     apply gT
     · rfl
     · intro hg
       exact pf th183 th3 hb2
     apply gT
     · rfl
     · intro hg; try simp only [hg, ct]; try simp only [hg, ct, Bt]
       exact pl th3 hb2
     apply gT
     · rfl
     · intro hg; try simp only [hg, ct]; try simp only [hg, ct, Bt]
       exact pb
     refine uA ?_
     refine um ?_
     apply gT
     · rfl
     · intro hg
       exact pf th183 th3 hb2
     apply gT
     · rfl
     · intro hg; try simp only [hg, ct]; try simp only [hg, ct, Bt]
       exact pl th3 hb2
     apply gT
     · rfl
     · intro hg; try simp only [hg, ct]; try simp only [hg, ct, Bt]
       exact pb
     refine uA ?_
     refine ua ?_
     refine u_nil ?_
     refine WP.ret ?_
     refine ret_ok rfl ?_ (by omega) (fun t ht => (hk2 t (by omega)))
     -- ret 4
     clear hK3 hK8
     refine congrArg D.bool ?_
     simp only [mayD]
     grind
    ·
     refine WP.skip ?_
     refine hK8 _ ?_
     refine wr ?_
     refine ua ?_
     refine u_nil ?_
     refine WP.ret ?_
     refine ret_ok rfl ?_ (by omega) (fun t ht => (hk2 t (by omega)))
     -- ret 5
     clear hK3 hK8
     refine congrArg D.bool ?_
     simp only [mayD]
     grind

end Go.Proofs.YtmielecljgfnaaaGreat.Abs

set_option linter.unusedVariables false
set_option linter.unusedSimpArgs false
set_option maxRecDepth 10000
namespace Go.Proofs.YtmielecljgfnaaaGreat.Abs
open Go

theorem fn229 : FnOk Tryz.prog 229 6 [2] (bodyOf Tryz.f229) := ⟨Tryz.f229, Tryz.func229, by kernel_rfl, by decide, by kernel_rfl, by kernel_rfl⟩
theorem s229 (d : Dlt) (hd : okD d) : PSpec Tryz.prog 229 [.d (encD d)] (.d (.bool (!mayD d))) := by
 refine PSpec.of fn229 (by simp) fun o nk => ?_
 refine wr ?_
 refine u_step (g_box rfl fun o2 hb2 hk2 => ?_)
 refine ua ?_
 refine u_nil ?_
 refine wr ?_
 refine ug th183 hb2 ?_
 refine u_step (o_pcall (s230 d hd) rfl ?_)
 refine uN ?_
 refine ua ?_
 refine u_nil ?_
 refine WP.ret ?_
 refine ret_ok rfl ?_ (by omega) (fun t ht => (hk2 t (by omega)))
 -- ret 1
 rfl

theorem fn184 : FnOk Tryz.prog 184 10 [2] (bodyOf Tryz.f184) := ⟨Tryz.f184, Tryz.func184, by kernel_rfl, by decide, by kernel_rfl, by kernel_rfl⟩
theorem s184 (l : List Dlt) (hl : l.length ≤ 64 → ∀ d ∈ l, okD d) : PSpec Tryz.prog 184 [.d (.sl 8 (l.map encD))] (.d (.int .i64 (checkD l))) := by
 refine PSpec.of fn184 (by simp) fun o nk => ?_
 refine wr ?_
 refine ua ?_
 refine u_nil ?_
 refine WP.seq fun K2 hK2 => ?_
 refine WP.block ?_
 refine wr ?_
 refine um ?_
 refine un th70 ?_
 refine ub ?_
 refine ua ?_
 refine u_nil ?_
 refine wc (fun hc4 => ?_) (fun hc4 => ?_) <;> try simp only [Q0, Q1, Q2, Q3, Q4, Q5, Q6, Q7, Q8, ge_iff_le, gt_iff_lt] at hc4
 ·
  refine wr ?_
  refine ua ?_
  refine u_nil ?_
  refine WP.ret ?_
  refine ret_ok rfl ?_ (by omega) (fun _ _ => rfl)
  -- ret 1
  clear hK2
  refine congrArg (D.int .i64) ?_
  try simp only [any_not] at hc4
  simp only [checkD]
  grind
 ·
  refine wr ?_
  refine um ?_
  refine u_step (o_scall (s225 l 229 [] [] (fun d => !mayD d) (fun x hx => s229 x (hl (by omega) x hx) _ _)) rfl ?_)
  refine ua ?_
  refine u_nil ?_
  refine wc (fun hc7 => ?_) (fun hc7 => ?_) <;> try simp only [Q0, Q1, Q2, Q3, Q4, Q5, Q6, Q7, Q8, ge_iff_le, gt_iff_lt] at hc7
  ·
   refine wr ?_
   refine ua ?_
   refine u_nil ?_
   refine WP.ret ?_
   refine ret_ok rfl ?_ (by omega) (fun _ _ => rfl)
   -- ret 2
   clear hK2
   refine congrArg (D.int .i64) ?_
   try simp only [any_not] at hc4 hc7
   simp only [checkD]
   grind
  ·
   refine WP.skip ?_
   refine hK2 _ ?_
   refine wr ?_
   refine ua ?_
   refine u_nil ?_
   refine WP.ret ?_
   refine ret_ok rfl ?_ (by omega) (fun _ _ => rfl)
   -- ret 3
   clear hK2
   refine congrArg (D.int .i64) ?_
   try simp only [any_not] at hc4 hc7
   simp only [checkD]
   grind

theorem fn180 : FnOk Tryz.prog 180 19 [2] (bodyOf Tryz.f180) := ⟨Tryz.f180, Tryz.func180, by kernel_rfl, by decide, by kernel_rfl, by kernel_rfl⟩
theorem s180 (l : List Dlt) (hl : l.length ≤ 64 → ∀ d ∈ l, okD d) : PSpec Tryz.prog 180 [.d (.sl 8 (l.map encD))] (.d (.int .i64 (checkD l))) := by
 refine PSpec.bd fun hbd => ?_
 have hx : l.length ≤ 9223372036854775807 := by simpa using hbd.1.1
 refine PSpec.of fn180 (by simp) fun o nk => ?_
 refine wr ?_
 refine ua ?_
 refine u_nil ?_
 refine WP.seq fun K2 hK2 => ?_
 refine wr ?_
 refine um ?_
 refine un th70 ?_
 refine ub ?_
 refine u_nil ?_
 refine wc (fun hc4 => ?_) (fun hc4 => ?_) <;> try simp only [Q0, Q1, Q2, Q3, Q4, Q5, Q6, Q7, Q8, ge_iff_le, gt_iff_lt] at hc4
 ·
  refine wr ?_
  refine ua ?_
  refine u_nil ?_
  refine WP.ret ?_
  refine ret_ok rfl ?_ (by omega) (fun _ _ => rfl)
  -- ret 1
  refine congrArg (D.int .i64) ?_
  simp only [checkD]
  clear hK2
  grind
 ·
  refine WP.skip ?_
  refine hK2 _ ?_
  refine WP.seq fun K6 hK6 => ?_
  refine wr ?_
  refine ua ?_
  refine u_nil ?_
  refine WP.block ?_
  refine WP.loopL (ι := Nat) (fun i => ⟨al [(0, .d (.sl 8 (l.map encD))), (3, .d (.int .i64 i))], o, nk⟩) (fun i => i ≤ l.length ∧ (l.take i).all mayD = true) (fun i => l.length - i) (fun i hA => ?_) 0 ?_ ?_
  ·
   obtain ⟨hle_i, hin_i⟩ := hA
   refine WP.seq fun K8 hK8 => ?_
   refine wr ?_
   refine um ?_
   refine um ?_
   refine un th70 ?_
   refine ub ?_
   refine u_nil ?_
   refine wc (fun hc10 => ?_) (fun hc10 => ?_) <;> try simp only [Q0, Q1, Q2, Q3, Q4, Q5, Q6, Q7, Q8, ge_iff_le, gt_iff_lt] at hc10
   ·
    refine WP.skip ?_
    refine hK8 _ ?_
    refine WP.seq fun K11 hK11 => ?_
    refine WP.block ?_
    refine wr ?_
    refine um ?_
    refine um ?_
    first | refine u_step (o_ia_map rfl rfl th70 rfl th183 rfl (by omega) ?_) | refine u_step (o_ia_vs rfl rfl th70 rfl th183 rfl (by omega) ?_)
    refine uL th183 ?_
    refine u_step (o_pcall (s190 l[i] (hl (by omega) _ (List.getElem_mem _))) rfl ?_)
    refine uN ?_
    refine u_nil ?_
    refine wc (fun hc13 => ?_) (fun hc13 => ?_) <;> try simp only [Q0, Q1, Q2, Q3, Q4, Q5, Q6, Q7, Q8, ge_iff_le, gt_iff_lt] at hc13
    ·
     refine wr ?_
     refine ua ?_
     refine u_nil ?_
     refine WP.ret ?_
     refine ret_ok rfl ?_ (by omega) (fun _ _ => rfl)
     -- ret 2
     have h1 := all_false (p := mayD) (by omega : i < l.length) (by simpa using hc13)
     refine congrArg (D.int .i64) ?_
     simp only [checkD, h1]
     grind
    ·
     refine WP.skip ?_
     refine hK11 _ ?_
     refine WP.reg tabOk rfl ?_
     refine um ?_
     refine ub ?_
     refine ua ?_
     refine u_nil ?_
     -- back
     refine ⟨i + 1, ⟨by omega, ?_⟩, by omega, ?_⟩
     · rw [all_snoc (by omega), hin_i]
       simpa using hc13
     · refine Le.al ?_
       simp only [List.forall_mem_cons]
       exact ⟨rfl, cnt (by omega), by simp⟩
   ·
    refine WP.exit ?_
    refine hK6 _ ?_
    refine wr ?_
    refine ua ?_
    refine u_nil ?_
    refine WP.ret ?_
    refine ret_ok rfl ?_ (by omega) (fun _ _ => rfl)
    -- ret 3
    have h1 := all_true (by omega) hin_i
    refine congrArg (D.int .i64) ?_
    simp only [checkD, h1]
    grind
  ·
   simp
  ·
   refine Le.al ?_
   simp only [List.forall_mem_cons]
   exact ⟨rfl, rfl, by simp⟩

end Go.Proofs.YtmielecljgfnaaaGreat.Abs

set_option linter.unusedVariables false
set_option linter.unusedSimpArgs false
set_option maxRecDepth 10000
namespace Go.Proofs.YtmielecljgfnaaaGreat.Abs
open Go
def touchD (l : List Dlt) (p : List Str) : Bool := l.any fun d => meetV d.path p

theorem fn289 : FnOk Tryz.prog 289 8 [3] (bodyOf Tryz.f289) := ⟨Tryz.f289, Tryz.func289, by kernel_rfl, by decide, by kernel_rfl, by kernel_rfl⟩
theorem s289 (d : Dlt) (p : List Str) {o : Nat → Option AO} {nk k : Nat} (hkc : o k = some (.box [.d (.sl 1 (p.map .str))])) (hkl : k < nk) : Spec Tryz.prog 289 [.d (encD d), .loc k 0] o nk (fun r' o' nk' => r' = .d (.bool (meetV d.path p)) ∧ o' = o ∧ nk' = nk) := by
 refine Spec.pure (fun _ => trivial) rfl (Spec.of_body fn289 (by simp) ?_)
 refine wr ?_
 refine u_step (g_box rfl fun o2 hb2 hk2 => ?_)
 have hkc_2 := (hk2 _ (by omega)).trans hkc
 refine ua ?_
 refine u_nil ?_
 refine wr ?_
 refine uf th183 th60 hb2 ?_
 refine ul th60 hb2 ?_
 refine ul th60 hkc_2 ?_
 refine u_step (o_pcall (s290 _ _) rfl ?_)
 refine ua ?_
 refine u_nil ?_
 refine WP.ret ?_
 refine ret_ok rfl ?_ (by omega) (fun t ht => (hk2 t (by omega)))
 -- ret 1
 rfl

theorem fn266 : FnOk Tryz.prog 266 8 [4] (bodyOf Tryz.f266) := ⟨Tryz.f266, Tryz.func266, by kernel_rfl, by decide, by kernel_rfl, by kernel_rfl⟩
theorem s266 (l : List Dlt) (p : List Str) : PSpec Tryz.prog 266 [.d (.sl 8 (l.map encD)), .d (.sl 1 (p.map .str))] (.d (.bool (touchD l p))) := by
 refine PSpec.of fn266 (by simp) fun o nk => ?_
 refine wr ?_
 refine u_step (g_box1 rfl rfl fun o2 hb2 hk2 => ?_)
 refine ua ?_
 refine u_nil ?_
 refine wr ?_
 refine um ?_
 refine u_step (o_mf rfl rfl ?_)
 refine u_step (o_scall (s225 l 289 [] [.loc nk 0] (fun d => meetV d.path p) (fun x hx => s289 x p hb2 (by omega))) rfl ?_)
 refine ua ?_
 refine u_nil ?_
 refine WP.ret ?_
 refine ret_ok rfl ?_ (by omega) (fun t ht => (hk2 t (by omega)))
 -- ret 1
 rfl

end Go.Proofs.YtmielecljgfnaaaGreat.Abs

set_option linter.unusedVariables false
set_option linter.unusedSimpArgs false
set_option maxRecDepth 10000
namespace Go.Proofs.YtmielecljgfnaaaGreat.Abs
open Go
def freeD (l : List Dlt) : Bool := decide (l.Pairwise fun a b => meetV a.path b.path = false)
theorem meet_comm (a b : List Str) : meetV a b = meetV b a := by simp [meetV, Bool.or_comm]
theorem free_no {l : List Dlt} {i k : Nat} (hi : i < l.length) (hk : k < i) (h : meetV (l[k]'(by omega)).path (l[i]'hi).path = true) : freeD l = false := by
  unfold freeD
  rw [decide_eq_false_iff_not]
  intro hp
  have := (List.pairwise_iff_getElem.1 hp) k i (by omega) hi hk
  rw [h] at this; cases this
theorem free_yes {l : List Dlt} (h : ∀ (a b : Nat) (ha : a < l.length) (hb : b < l.length), a < b → meetV l[a].path l[b].path = false) : freeD l = true := by
  unfold freeD
  rw [decide_eq_true_eq]
  exact List.pairwise_iff_getElem.2 fun i j hi hj hij => h i j hi hj hij

theorem fn181 : FnOk Tryz.prog 181 40 [2] (bodyOf Tryz.f181) := ⟨Tryz.f181, Tryz.func181, by kernel_rfl, by decide, by kernel_rfl, by kernel_rfl⟩
theorem s181 (l : List Dlt) : PSpec Tryz.prog 181 [.d (.sl 8 (l.map encD))] (.d (.bool (freeD l))) := by
 refine PSpec.bd fun hbd => ?_
 have hx : l.length ≤ 9223372036854775807 := by simpa using hbd.1.1
 refine PSpec.of fn181 (by simp) fun o nk => ?_
 refine wr ?_
 refine ua ?_
 refine u_nil ?_
 refine WP.seq fun K2 hK2 => ?_
 refine wr ?_
 refine ua ?_
 refine u_nil ?_
 refine WP.block ?_
 refine WP.loopL (ι := Nat) (fun i => ⟨al [(0, .d (.sl 8 (l.map encD))), (3, .d (.int .i64 i))], o, nk⟩) (fun i => i ≤ l.length ∧ ∀ (a b : Nat) (ha : a < l.length) (hb : b < l.length), a < b → b < i → meetV l[a].path l[b].path = false) (fun i => l.length - i) (fun i hA => ?_) 0 ?_ ?_
 ·
  obtain ⟨hle_i, hin_i⟩ := hA
  refine WP.seq fun K4 hK4 => ?_
  refine wr ?_
  refine um ?_
  refine um ?_
  refine un th70 ?_
  refine ub ?_
  refine u_nil ?_
  refine wc (fun hc6 => ?_) (fun hc6 => ?_) <;> try simp only [Q0, Q1, Q2, Q3, Q4, Q5, Q6, Q7, Q8, ge_iff_le, gt_iff_lt] at hc6
  ·
   refine WP.skip ?_
   refine hK4 _ ?_
   refine WP.seq fun K7 hK7 => ?_
   refine WP.block ?_
   refine wr ?_
   refine ua ?_
   refine u_nil ?_
   refine WP.block ?_
   refine WP.loopL (ι := Nat) (fun j => ⟨al [(0, .d (.sl 8 (l.map encD))), (3, .d (.int .i64 i)), (4, .d (.int .i64 j))], o, nk⟩) (fun j => j ≤ i ∧ ∀ (a : Nat) (ha : a < l.length), a < j → meetV l[a].path l[i].path = false) (fun j => i - j) (fun j hA => ?_) 0 ?_ ?_
   ·
    obtain ⟨hle_j, hin_j⟩ := hA
    refine WP.seq fun K9 hK9 => ?_
    refine wr ?_
    refine um ?_
    refine um ?_
    refine ub ?_
    refine u_nil ?_
    refine wc (fun hc11 => ?_) (fun hc11 => ?_) <;> try simp only [Q0, Q1, Q2, Q3, Q4, Q5, Q6, Q7, Q8, ge_iff_le, gt_iff_lt] at hc11
    ·
     refine WP.skip ?_
     refine hK9 _ ?_
     refine WP.seq fun K12 hK12 => ?_
     refine WP.block ?_
     refine wd ?_
     refine dm ?_
     refine dm ?_
     first | refine d_step (o_ia_map rfl rfl th70 rfl th183 rfl (by omega) ⟨rfl, rfl, rfl⟩) ?_ | refine d_step (o_ia_vs rfl rfl th70 rfl th183 rfl (by omega) ⟨rfl, rfl, rfl⟩) ?_
     refine dF th183 th60 ?_
     refine dL th60 ?_
     refine dm ?_
     refine dm ?_
     first | refine d_step (o_ia_map rfl rfl th70 rfl th183 rfl (by omega) ⟨rfl, rfl, rfl⟩) ?_ | refine d_step (o_ia_vs rfl rfl th70 rfl th183 rfl (by omega) ⟨rfl, rfl, rfl⟩) ?_
     refine dF th183 th60 ?_
     refine dL th60 ?_
     refine d_step (o_pcall (s220 _ _) rfl ⟨rfl, rfl, rfl⟩) ?_
     refine dm ?_
     apply d_guard
     · exact GC.f _
     · intro hg
       exact pm
     apply d_guard
     · exact GC.f _
     · intro hg
       exact pm
     apply d_guard
     · exact GC.f _
     · intro hg; try simp only [hg, ct]; try simp only [hg, ct, Bt]
       have hg2 := hg; try simp only [Q0, Q1, Q2, Q3, Q4, Q5, Q6, Q9, Qa, Qb, Qc, Qd] at hg2
       first | refine o_ia_map rfl rfl th70 rfl th183 rfl (by omega) ⟨rfl, rfl, rfl⟩ | refine o_ia_vs rfl rfl th70 rfl th183 rfl (by omega) ⟨rfl, rfl, rfl⟩
     apply d_guard
     · exact GC.f _
     · intro hg; try simp only [hg, ct]; try simp only [hg, ct, Bt]
       exact pF th183 th60
     apply d_guard
     · exact GC.f _
     · intro hg; try simp only [hg, ct]; try simp only [hg, ct, Bt]
       exact pL th60
     apply d_guard
     · exact GC.f _
     · intro hg
       exact pm
     apply d_guard
     · exact GC.f _
     · intro hg
       exact pm
     apply d_guard
     · exact GC.f _
     · intro hg; try simp only [hg, ct]; try simp only [hg, ct, Bt]
       have hg2 := hg; try simp only [Q0, Q1, Q2, Q3, Q4, Q5, Q6, Q9, Qa, Qb, Qc, Qd] at hg2
       first | refine o_ia_map rfl rfl th70 rfl th183 rfl (by omega) ⟨rfl, rfl, rfl⟩ | refine o_ia_vs rfl rfl th70 rfl th183 rfl (by omega) ⟨rfl, rfl, rfl⟩
     apply d_guard
     · exact GC.f _
     · intro hg; try simp only [hg, ct]; try simp only [hg, ct, Bt]
       exact pF th183 th60
     apply d_guard
     · exact GC.f _
     · intro hg; try simp only [hg, ct]; try simp only [hg, ct, Bt]
       exact pL th60
     apply d_guard
     · exact GC.f _
     · intro hg; try simp only [hg, ct]; try simp only [hg, ct, Bt]
       refine o_pcall (s220 _ _) rfl ⟨rfl, rfl, rfl⟩
     refine dO ?_
     refine d_nil ?_
     refine wc (fun hc14 => ?_) (fun hc14 => ?_) <;> try simp only [Q0, Q1, Q2, Q3, Q4, Q5, Q6, Q7, Q8, ge_iff_le, gt_iff_lt] at hc14
     ·
      refine wr ?_
      refine ua ?_
      refine u_nil ?_
      refine WP.ret ?_
      refine ret_ok rfl ?_ (by omega) (fun _ _ => rfl)
      -- ret 1
      rw [free_no (i := i) (k := j) (by omega) (by omega) (by rw [meet_comm]; exact hc14)]
     ·
      refine WP.skip ?_
      refine hK12 _ ?_
      refine WP.reg tabOk rfl ?_
      refine um ?_
      refine ub ?_
      refine ua ?_
      refine u_nil ?_
      -- back
      refine ⟨j + 1, ⟨by omega, ?_⟩, by omega, ?_⟩
      · intro a ha h1
        by_cases haj : a = j
        · subst haj; rw [meet_comm]; exact hc14
        · exact hin_j a ha (by omega)
      · refine Le.al ?_
        simp only [List.forall_mem_cons]
        exact ⟨rfl, rfl, cnt (by omega), by simp⟩
    ·
     refine WP.exit ?_
     refine hK7 _ ?_
     refine WP.reg tabOk rfl ?_
     refine um ?_
     refine ub ?_
     refine ua ?_
     refine u_nil ?_
     -- back
     refine ⟨i + 1, ⟨by omega, ?_⟩, by omega, ?_⟩
     · intro a b ha hb h1 h2
       by_cases hbi : b = i
       · subst hbi; exact hin_j a ha (by omega)
       · exact hin_i a b ha hb h1 (by omega)
     · refine Le.al ?_
       simp only [List.forall_mem_cons]
       exact ⟨rfl, cnt (by omega), by simp⟩
   ·
    simp
   ·
    refine Le.al ?_
    simp only [List.forall_mem_cons]
    exact ⟨rfl, rfl, rfl, by simp⟩
  ·
   refine WP.exit ?_
   refine hK2 _ ?_
   refine wr ?_
   refine ua ?_
   refine u_nil ?_
   refine WP.ret ?_
   refine ret_ok rfl ?_ (by omega) (fun _ _ => rfl)
   -- ret 2
   rw [free_yes fun a b ha hb h1 => hin_i a b ha hb h1 (by omega)]
 ·
  simp
 ·
  refine Le.al ?_
  simp only [List.forall_mem_cons]
  exact ⟨rfl, rfl, by simp⟩

end Go.Proofs.YtmielecljgfnaaaGreat.Abs

set_option linter.unusedVariables false
set_option linter.unusedSimpArgs false
set_option maxRecDepth 10000
namespace Go.Proofs.YtmielecljgfnaaaGreat.Abs
open Go
theorem s266t (l : List Dlt) (p : List Str) (m : Nat) : PSpec Tryz.prog 266 [.d (.sl 8 (((l.map encD).take m).drop 0)), .d (.sl 1 (p.map .str))] (.d (.bool (touchD (l.take m) p))) := by
  have := s266 (l.take m) p
  rwa [List.map_take] at this
theorem touch_yes {l : List Dlt} {i : Nat} {p : List Str} (h : touchD (l.take i) p = true) : ∃ (k : Nat) (hk : k < l.length), k < i ∧ meetV l[k].path p = true := by
  obtain ⟨d, hd, h1⟩ := List.any_eq_true.1 h
  obtain ⟨k, hk, he⟩ := List.mem_iff_getElem.1 hd
  rw [List.getElem_take] at he
  have hki : k < i ∧ k < l.length := by simp at hk; omega
  exact ⟨k, hki.2, hki.1, by rw [he]; exact h1⟩
theorem touch_no {l : List Dlt} {i : Nat} {p : List Str} (h : touchD (l.take i) p = false) {k : Nat} (hk : k < l.length) (hki : k < i) : meetV l[k].path p = false := by
  have h1 := List.any_eq_false.1 h (l[k]) (List.mem_iff_getElem.2 ⟨k, by simp; omega, by rw [List.getElem_take]⟩)
  simpa using h1

theorem fn224 : FnOk Tryz.prog 224 19 [2] (bodyOf Tryz.f224) := ⟨Tryz.f224, Tryz.func224, by kernel_rfl, by decide, by kernel_rfl, by kernel_rfl⟩
theorem s224 (l : List Dlt) : PSpec Tryz.prog 224 [.d (.sl 8 (l.map encD))] (.d (.bool (freeD l))) := by
 refine PSpec.bd fun hbd => ?_
 have hx : l.length ≤ 9223372036854775807 := by simpa using hbd.1.1
 refine PSpec.of fn224 (by simp) fun o nk => ?_
 refine wr ?_
 refine ua ?_
 refine u_nil ?_
 refine WP.seq fun K2 hK2 => ?_
 refine wr ?_
 refine um ?_
 refine un th70 ?_
 refine um ?_
 refine u_nil ?_
 refine WP.block ?_
 refine WP.loopL (ι := Nat × (Nat → Option AO) × Nat) (fun ⟨i, o2, nk2⟩ => ⟨al [(0, .d (.sl 8 (l.map encD))), (5, .d (.sl 8 (l.map encD))), (6, .d (.int .i64 (l.map encD).length)), (7, .d (.int .i64 i))], o2, nk2⟩) (fun ⟨i, o2, nk2⟩ => i ≤ l.length ∧ nk ≤ nk2 ∧ (∀ t, t < nk → o2 t = o t) ∧ ∀ (a b : Nat) (ha : a < l.length) (hb : b < l.length), a < b → b < i → meetV (l[a]'ha).path (l[b]'hb).path = false) (fun ⟨i, o2, nk2⟩ => l.length - i) (fun ⟨i, o2, nk2⟩ hA => ?_) ⟨0, o, nk⟩ ?_ ?_
 ·
  obtain ⟨hle, hnk, hfr, hin⟩ := hA
  refine wr ?_
  refine ub ?_
  refine u_nil ?_
  refine WP.seq fun K5 hK5 => ?_
  refine wc (fun hc6 => ?_) (fun hc6 => ?_) <;> try simp only [Q0, Q1, Q2, Q3, Q4, Q5, Q6, Q7, Q8, ge_iff_le, gt_iff_lt] at hc6
  ·
   refine WP.skip ?_
   refine hK5 _ ?_
   refine WP.seq fun K7 hK7 => ?_
   refine WP.block ?_
   refine wr ?_
   refine um ?_
   first | refine u_step (o_ia_map rfl rfl th70 rfl th183 rfl (by omega) ?_) | refine u_step (o_ia_vs rfl rfl th70 rfl th183 rfl (by omega) ?_)
   refine uL th183 ?_
   refine u_step (g_alloc th183 rfl fun o9 hb9 hk9 => ?_)
   refine ua ?_
   refine u_step0 (g_sta rfl rfl th183 rfl hb9 (by first | (simp; done) | (simp [D.leaves, D.width, valCells]; done) | decide) fun o10 hb10 hk10 => ?_)
   refine u_nil ?_
   refine wd ?_
   refine dm ?_
   refine dm ?_
   refine d_step (o_sl_sl (m := i) (p := 0) rfl th70 rfl th183 rfl (bnd_nat (by simp only [List.length_map]; omega)) rfl ⟨rfl, rfl, rfl⟩) ?_
   refine df th183 th60 hb10 ?_
   refine dl th60 hb10 ?_
   refine d_step (o_pcall (s266t l l[i].path i) rfl ⟨rfl, rfl, rfl⟩) ?_
   refine d_nil ?_
   refine wc (fun hc12 => ?_) (fun hc12 => ?_) <;> try simp only [Q0, Q1, Q2, Q3, Q4, Q5, Q6, Q7, Q8, ge_iff_le, gt_iff_lt] at hc12
   ·
    refine wr ?_
    refine ua ?_
    refine u_nil ?_
    refine WP.ret ?_
    refine ret_ok rfl ?_ (by omega) (fun t ht => (hk10 t (by omega)).trans ((hk9 t (by omega)).trans ((hfr t (by omega)))))
    -- ret 1
    obtain ⟨k, hk, hki, hm⟩ := touch_yes hc12
    rw [free_no (i := i) (k := k) (by omega) hki hm]
   ·
    refine WP.skip ?_
    refine hK7 _ ?_
    refine WP.reg tabOk rfl ?_
    refine ub ?_
    refine um ?_
    refine u_nil ?_
    -- back
    refine ⟨⟨i + 1, o10, (nk2 + 1)⟩, ⟨by omega, by omega, (fun t ht => (hk10 t (by omega)).trans ((hk9 t (by omega)).trans ((hfr t (by omega))))), ?_⟩, by simp only; omega, ?_⟩
    · intro a b ha hb h1 h2
      by_cases hbi : b = i
      · subst hbi; exact touch_no hc12 ha h1
      · exact hin a b ha hb h1 (by omega)
    · refine Le.al ?_
      simp only [List.forall_mem_cons]
      exact ⟨rfl, rfl, rfl, cnt (by omega), by simp⟩
  ·
   refine WP.exit ?_
   refine hK2 _ ?_
   refine wr ?_
   refine ua ?_
   refine u_nil ?_
   refine WP.ret ?_
   refine ret_ok rfl ?_ (by omega) (fun t ht => (hfr t (by omega)))
   -- ret 2
   rw [free_yes fun a b ha hb h1 => hin a b ha hb h1 (by omega)]
 ·
  refine ⟨by simp, by omega, (fun _ _ => rfl), by simp⟩
 ·
  refine Le.al ?_
  simp only [List.forall_mem_cons]
  exact ⟨rfl, rfl, rfl, rfl, by simp⟩

end Go.Proofs.YtmielecljgfnaaaGreat.Abs

set_option linter.unusedVariables false
set_option linter.unusedSimpArgs false
set_option maxRecDepth 10000
namespace Go.Proofs.YtmielecljgfnaaaGreat.Abs
open Go
def cmpI (a b : Int) : Int := if a < b then -1 else if b < a then 1 else 0
def orI : List Int → Int
  | [] => 0
  | x :: r => if x = 0 then orI r else x
theorem orI_at : ∀ {l : List Int} {i : Nat} (h : i < l.length) (_ : ∀ x ∈ l.take i, x = 0) (_ : l[i]'h ≠ 0), orI l = l[i]'h
  | x :: l, 0, _, _, hn => by simp only [orI, List.getElem_cons_zero] at *; rw [if_neg hn]
  | x :: l, i + 1, h, hz, hn => by
    have h0 : x = 0 := hz x (by simp)
    simp only [orI, if_pos h0, List.getElem_cons_succ]
    exact orI_at (by simpa using h) (fun y hy => hz y (by simp [hy])) (by simpa using hn)
theorem orI_none : ∀ {l : List Int}, (∀ x ∈ l, x = 0) → orI l = 0
  | [], _ => rfl
  | x :: l, h => by
    simp only [orI, if_pos (h x (by simp))]
    exact orI_none fun y hy => h y (by simp [hy])

theorem fn306 : FnOk Tryz.prog 306 6 [2] (bodyOf Tryz.f306) := ⟨Tryz.f306, Tryz.func306, by kernel_rfl, by decide, by kernel_rfl, by kernel_rfl⟩
theorem s306 (x : Int) : PSpec Tryz.prog 306 [.d (.int .i64 x)] (.d (.bool false)) := by
 refine PSpec.of fn306 (by simp) fun o nk => ?_
 refine wr ?_
 refine ua ?_
 refine u_nil ?_
 refine wr ?_
 refine um ?_
 refine um ?_
 refine ub ?_
 refine ua ?_
 refine u_nil ?_
 refine WP.ret ?_
 refine ret_ok rfl ?_ (by omega) (fun _ _ => rfl)
 -- ret 1
 simp

theorem fn292 : FnOk Tryz.prog 292 20 [4] (bodyOf Tryz.f292) := ⟨Tryz.f292, Tryz.func292, by kernel_rfl, by decide, by kernel_rfl, by kernel_rfl⟩
theorem s292 (a b : Int) : PSpec Tryz.prog 292 [.d (.int .i64 a), .d (.int .i64 b)] (.d (.int .i64 (cmpI a b))) := by
 refine PSpec.of fn292 (by simp) fun o nk => ?_
 refine wr ?_
 refine ua ?_
 refine u_nil ?_
 refine wr ?_
 refine um ?_
 refine u_step (o_pcall (s306 _) rfl ?_)
 refine ua ?_
 refine u_nil ?_
 refine wr ?_
 refine um ?_
 refine u_step (o_pcall (s306 _) rfl ?_)
 refine ua ?_
 refine u_nil ?_
 refine WP.seq fun K4 hK4 => ?_
 refine wr ?_
 refine um ?_
 refine u_nil ?_
 refine wc (fun hc6 => ?_) (fun hc6 => ?_) <;> try simp only [Q0, Q1, Q2, Q3, Q4, Q5, Q6, Q7, Q8, ge_iff_le, gt_iff_lt] at hc6
 ·
  cases hc6
 ·
  refine WP.skip ?_
  refine hK4 _ ?_
  refine WP.seq fun K7 hK7 => ?_
  refine wr ?_
  refine um ?_
  refine u_nil ?_
  refine wc (fun hc9 => ?_) (fun hc9 => ?_) <;> try simp only [Q0, Q1, Q2, Q3, Q4, Q5, Q6, Q7, Q8, ge_iff_le, gt_iff_lt] at hc9
  ·
   cases hc9
  ·
   refine WP.skip ?_
   refine hK7 _ ?_
   refine WP.seq fun K10 hK10 => ?_
   refine wr ?_
   refine um ?_
   refine um ?_
   refine ub ?_
   refine u_nil ?_
   refine wc (fun hc12 => ?_) (fun hc12 => ?_) <;> try simp only [Q0, Q1, Q2, Q3, Q4, Q5, Q6, Q7, Q8, ge_iff_le, gt_iff_lt] at hc12
   ·
    refine wr ?_
    refine ua ?_
    refine u_nil ?_
    refine WP.ret ?_
    refine ret_ok rfl ?_ (by omega) (fun _ _ => rfl)
    -- ret 1
    refine congrArg (D.int .i64) ?_
    simp only [cmpI]
    clear hK4 hK7 hK10
    grind
   ·
    refine WP.skip ?_
    refine hK10 _ ?_
    refine WP.seq fun K14 hK14 => ?_
    refine wr ?_
    refine um ?_
    refine um ?_
    refine ub ?_
    refine u_nil ?_
    refine wc (fun hc16 => ?_) (fun hc16 => ?_) <;> try simp only [Q0, Q1, Q2, Q3, Q4, Q5, Q6, Q7, Q8, ge_iff_le, gt_iff_lt] at hc16
    ·
     refine wr ?_
     refine ua ?_
     refine u_nil ?_
     refine WP.ret ?_
     refine ret_ok rfl ?_ (by omega) (fun _ _ => rfl)
     -- ret 2
     refine congrArg (D.int .i64) ?_
     simp only [cmpI]
     clear hK4 hK7 hK10 hK14
     grind
    ·
     refine WP.skip ?_
     refine hK14 _ ?_
     refine wr ?_
     refine ua ?_
     refine u_nil ?_
     refine WP.ret ?_
     refine ret_ok rfl ?_ (by omega) (fun _ _ => rfl)
     -- ret 3
     refine congrArg (D.int .i64) ?_
     simp only [cmpI]
     clear hK4 hK7 hK10 hK14
     grind

theorem fn291 : FnOk Tryz.prog 291 18 [2] (bodyOf Tryz.f291) := ⟨Tryz.f291, Tryz.func291, by kernel_rfl, by decide, by kernel_rfl, by kernel_rfl⟩
theorem s291 (l : List Int) : PSpec Tryz.prog 291 [.d (.sl 1 (l.map (D.int .i64)))] (.d (.int .i64 (orI l))) := by
 refine PSpec.bd fun hbd => ?_
 have hx : l.length ≤ 9223372036854775807 := by simpa using hbd.1.1
 refine PSpec.of fn291 (by simp) fun o nk => ?_
 refine wr ?_
 refine ua ?_
 refine u_nil ?_
 refine wr ?_
 refine ua ?_
 refine u_nil ?_
 refine WP.seq fun K3 hK3 => ?_
 refine wr ?_
 refine um ?_
 refine un th112 ?_
 refine um ?_
 refine u_nil ?_
 refine WP.block ?_
 refine WP.loopL (ι := Nat) (fun i => ⟨al [(3, .d (.int .i64 0)), (6, .d (.sl 1 (l.map (D.int .i64)))), (7, .d (.int .i64 (l.map (D.int .i64)).length)), (8, .d (.int .i64 i))], o, nk⟩) (fun i => i ≤ l.length ∧ ∀ x ∈ l.take i, x = 0) (fun i => l.length - i) (fun i hA => ?_) 0 ?_ ?_
 ·
  obtain ⟨hle_i, hin_i⟩ := hA
  refine wr ?_
  refine ub ?_
  refine u_nil ?_
  refine WP.seq fun K6 hK6 => ?_
  refine wc (fun hc7 => ?_) (fun hc7 => ?_) <;> try simp only [Q0, Q1, Q2, Q3, Q4, Q5, Q6, Q7, Q8, ge_iff_le, gt_iff_lt] at hc7
  ·
   refine WP.skip ?_
   refine hK6 _ ?_
   refine WP.seq fun K8 hK8 => ?_
   refine WP.block ?_
   refine wr ?_
   first | refine u_step (o_ia_map rfl rfl th112 rfl th3 rfl (by omega) ?_) | refine u_step (o_ia_vs rfl rfl th112 rfl th3 rfl (by omega) ?_)
   refine uL th3 ?_
   refine ua ?_
   refine u_nil ?_
   refine wr ?_
   refine um ?_
   refine um ?_
   refine ub ?_
   refine u_nil ?_
   refine wc (fun hc11 => ?_) (fun hc11 => ?_) <;> try simp only [Q0, Q1, Q2, Q3, Q4, Q5, Q6, Q7, Q8, ge_iff_le, gt_iff_lt] at hc11
   ·
    refine wr ?_
    refine um ?_
    refine ua ?_
    refine u_nil ?_
    refine WP.ret ?_
    refine ret_ok rfl ?_ (by omega) (fun _ _ => rfl)
    -- ret 1
    rw [orI_at (by omega) hin_i (by simpa using hc11)]
   ·
    refine WP.skip ?_
    refine hK8 _ ?_
    refine WP.reg tabOk rfl ?_
    refine ub ?_
    refine um ?_
    refine u_nil ?_
    -- back
    refine ⟨i + 1, ⟨by omega, ?_⟩, by omega, ?_⟩
    · rw [List.take_succ_eq_append_getElem (by omega)]
      intro x hx
      rcases List.mem_append.1 hx with h | h
      · exact hin_i x h
      · simp only [List.mem_singleton] at h; subst h; simpa using hc11
    · refine Le.al ?_
      simp only [List.forall_mem_cons]
      exact ⟨rfl, rfl, rfl, cnt (by omega), by simp⟩
  ·
   refine WP.exit ?_
   refine hK3 _ ?_
   refine wr ?_
   refine um ?_
   refine ua ?_
   refine u_nil ?_
   refine WP.ret ?_
   refine ret_ok rfl ?_ (by omega) (fun _ _ => rfl)
   -- ret 2
   rw [orI_none fun x hx => hin_i x (by rwa [List.take_of_length_le (by omega)])]
 ·
  simp
 ·
  refine Le.al ?_
  simp only [List.forall_mem_cons]
  exact ⟨rfl, rfl, rfl, rfl, by simp⟩

end Go.Proofs.YtmielecljgfnaaaGreat.Abs

set_option linter.unusedVariables false
set_option linter.unusedSimpArgs false
set_option maxRecDepth 10000
namespace Go.Proofs.YtmielecljgfnaaaGreat.Abs
open Go
/-- The place of a text among texts. -/
def idxS (ns : List Str) (s : Str) : Int := firstI (fun x => decide (s = x)) ns

theorem fn304 : FnOk Tryz.prog 304 19 [4] (bodyOf Tryz.f304) := ⟨Tryz.f304, Tryz.func304, by kernel_rfl, by decide, by kernel_rfl, by kernel_rfl⟩
theorem s304 (ns : List Str) (s : Str) : PSpec Tryz.prog 304 [.d (.sl 1 (ns.map .str)), .d (.str s)] (.d (.int .i64 (idxS ns s))) := by
 refine PSpec.bd fun hbd => ?_
 have hx : ns.length ≤ 9223372036854775807 := by simpa using hbd.1.1
 refine PSpec.of fn304 (by simp) fun o nk => ?_
 refine wr ?_
 refine ua ?_
 refine u_nil ?_
 refine WP.seq fun K2 hK2 => ?_
 refine wr ?_
 refine um ?_
 refine un th60 ?_
 refine um ?_
 refine u_nil ?_
 refine WP.block ?_
 refine WP.loopL (ι := Nat) (fun i => ⟨al [(0, .d (.sl 1 (ns.map .str))), (1, .d (.str s)), (7, .d (.int .i64 (ns.map D.str).length)), (8, .d (.int .i64 i))], o, nk⟩) (fun i => i ≤ ns.length ∧ ∀ (j : Nat) (hj : j < ns.length), j < i → decide (s = ns[j]) = false) (fun i => ns.length - i) (fun i hA => ?_) 0 ?_ ?_
 ·
  obtain ⟨hle_i, hin_i⟩ := hA
  refine wr ?_
  refine ub ?_
  refine u_nil ?_
  refine WP.seq fun K5 hK5 => ?_
  refine wc (fun hc6 => ?_) (fun hc6 => ?_) <;> try simp only [Q0, Q1, Q2, Q3, Q4, Q5, Q6, Q7, Q8, ge_iff_le, gt_iff_lt] at hc6
  ·
   refine WP.skip ?_
   refine hK5 _ ?_
   refine WP.seq fun K7 hK7 => ?_
   refine WP.block ?_
   refine wr ?_
   refine um ?_
   refine ua ?_
   refine u_nil ?_
   refine wr ?_
   refine um ?_
   refine um ?_
   refine um ?_
   first | refine u_step (o_ia_map rfl rfl th60 rfl th9 rfl (by omega) ?_) | refine u_step (o_ia_vs rfl rfl th60 rfl th9 rfl (by omega) ?_)
   refine uL th9 ?_
   refine us ?_
   refine u_nil ?_
   refine wc (fun hc10 => ?_) (fun hc10 => ?_) <;> try simp only [Q0, Q1, Q2, Q3, Q4, Q5, Q6, Q7, Q8, ge_iff_le, gt_iff_lt] at hc10
   ·
    refine wr ?_
    refine um ?_
    refine ua ?_
    refine u_nil ?_
    refine WP.ret ?_
    refine ret_ok rfl ?_ (by omega) (fun _ _ => rfl)
    -- ret 1
    rw [idxS, firstI_at (p := fun x => decide (s = x)) (xs := ns) (i := i) (by omega) (decide_eq_true hc10) hin_i]
   ·
    refine WP.skip ?_
    refine hK7 _ ?_
    refine WP.reg tabOk rfl ?_
    refine ub ?_
    refine um ?_
    refine u_nil ?_
    -- back
    refine ⟨i + 1, ⟨by omega, ?_⟩, by omega, ?_⟩
    · intro j hj h1
      by_cases h2 : j = i
      · subst h2; exact decide_eq_false hc10
      · exact hin_i j hj (by omega)
    · refine Le.al ?_
      simp only [List.forall_mem_cons]
      exact ⟨rfl, rfl, rfl, cnt (by omega), by simp⟩
  ·
   refine WP.exit ?_
   refine hK2 _ ?_
   refine wr ?_
   refine ua ?_
   refine u_nil ?_
   refine WP.ret ?_
   refine ret_ok rfl ?_ (by omega) (fun _ _ => rfl)
   -- ret 2
   rw [idxS, firstI_none (p := fun x => decide (s = x)) (xs := ns) fun j hj => hin_i j hj (by omega)]
 ·
  simp
 ·
  refine Le.al ?_
  simp only [List.forall_mem_cons]
  exact ⟨rfl, rfl, rfl, rfl, by simp⟩

theorem fn278 : FnOk Tryz.prog 278 18 [4] (bodyOf Tryz.f278) := ⟨Tryz.f278, Tryz.func278, by kernel_rfl, by decide, by kernel_rfl, by kernel_rfl⟩
theorem s278 (v : Val) (p : List Str) : PSpec Tryz.prog 278 [.d (encV v), .d (.sl 1 (p.map .str))] (.d (.int .i64 (if v.kind ≠ 7 ∨ mayV v = false then 20 else if pathV p then 0 else 40))) := by
 obtain ⟨kd, it, tx, xs, ns⟩ := v
 refine PSpec.of fn278 (by simp) fun o nk => ?_
 refine wr ?_
 refine u_step (g_box rfl fun o2 hb2 hk2 => ?_)
 refine ua ?_
 refine u_nil ?_
 refine WP.seq fun K3 hK3 => ?_
 refine WP.block ?_
 refine wr ?_
 refine uf th69 th3 hb2 ?_
 refine ul th3 hb2 ?_
 refine ub ?_
 refine um ?_
 apply gF
 · rfl
 · intro hg
   exact pg th69 hb2
 apply gF
 · rfl
 · intro hg; try simp only [hg, ct]; try simp only [hg, ct, Bt]
   refine o_pcall (s191 (.mk kd it tx xs ns)) rfl ⟨rfl, rfl, rfl⟩
 apply gF
 · rfl
 · intro hg; try simp only [hg, ct]; try simp only [hg, ct, Bt]
   exact pN
 refine uO ?_
 refine ua ?_
 refine u_nil ?_
 refine wc (fun hc5 => ?_) (fun hc5 => ?_) <;> try simp only [Q0, Q1, Q2, Q3, Q4, Q5, Q6, Q7, Q8, ge_iff_le, gt_iff_lt] at hc5
 ·
  refine wr ?_
  refine ua ?_
  refine u_nil ?_
  refine WP.ret ?_
  refine ret_ok rfl ?_ (by omega) (fun t ht => (hk2 t (by omega)))
  -- ret 1
  clear hK3
  refine congrArg (D.int .i64) ?_
  simp only [Val.kind]
  grind
 ·
  refine wr ?_
  refine um ?_
  refine u_step (o_pcall (s197 _) rfl ?_)
  refine uN ?_
  refine ua ?_
  refine u_nil ?_
  refine wc (fun hc8 => ?_) (fun hc8 => ?_) <;> try simp only [Q0, Q1, Q2, Q3, Q4, Q5, Q6, Q7, Q8, ge_iff_le, gt_iff_lt] at hc8
  ·
   refine wr ?_
   refine ua ?_
   refine u_nil ?_
   refine WP.ret ?_
   refine ret_ok rfl ?_ (by omega) (fun t ht => (hk2 t (by omega)))
   -- ret 2
   clear hK3
   refine congrArg (D.int .i64) ?_
   simp only [Val.kind]
   grind
  ·
   refine WP.skip ?_
   refine hK3 _ ?_
   refine wr ?_
   refine ua ?_
   refine u_nil ?_
   refine WP.ret ?_
   refine ret_ok rfl ?_ (by omega) (fun t ht => (hk2 t (by omega)))
   -- ret 3
   clear hK3
   refine congrArg (D.int .i64) ?_
   simp only [Val.kind]
   grind

end Go.Proofs.YtmielecljgfnaaaGreat.Abs

set_option linter.unusedVariables false
set_option linter.unusedSimpArgs false
set_option maxRecDepth 10000
namespace Go.Proofs.YtmielecljgfnaaaGreat.Abs
open Go
/-- Which parts an entry has, by its kind. -/
def fieldsV (k : Int) : Int := if k = 1 then 0 else if k = 7 then 3 else if k = 2 then 13 else if k = 4 then 5 else if k = 3 then 21 else if k = 5 ∨ k = 6 then 1 else -1

theorem fn113 : FnOk Tryz.prog 113 21 [2] (bodyOf Tryz.f113) := ⟨Tryz.f113, Tryz.func113, by kernel_rfl, by decide, by kernel_rfl, by kernel_rfl⟩
theorem s113 (k : Int) : PSpec Tryz.prog 113 [.d (.int .i64 k)] (.d (.int .i64 (fieldsV k))) := by
 refine PSpec.of fn113 (by simp) fun o nk => ?_
 refine wr ?_
 refine ua ?_
 refine u_nil ?_
 refine wr ?_
 refine ua ?_
 refine u_nil ?_
 refine WP.seq fun K3 hK3 => ?_
 refine wr ?_
 refine um ?_
 refine u_nil ?_
 refine WP.block ?_
 refine WP.seq fun K5 hK5 => ?_
 refine WP.block ?_
 refine WP.seq fun K6 hK6 => ?_
 refine WP.block ?_
 refine WP.seq fun K7 hK7 => ?_
 refine WP.block ?_
 refine WP.seq fun K8 hK8 => ?_
 refine WP.block ?_
 refine WP.seq fun K9 hK9 => ?_
 refine WP.block ?_
 refine WP.seq fun K10 hK10 => ?_
 refine WP.block ?_
 refine WP.seq fun K11 hK11 => ?_
 refine WP.seq fun K12 hK12 => ?_
 refine wr ?_
 refine ub ?_
 refine ua ?_
 refine u_nil ?_
 refine wc (fun hc14 => ?_) (fun hc14 => ?_) <;> try simp only [Q0, Q1, Q2, Q3, Q4, Q5, Q6, Q7, Q8, ge_iff_le, gt_iff_lt] at hc14
 ·
  refine WP.exit ?_
  refine hK10 _ ?_
  refine WP.seq fun K15 hK15 => ?_
  refine wr ?_
  refine ua ?_
  refine u_nil ?_
  refine WP.ret ?_
  refine ret_ok rfl ?_ (by omega) (fun _ _ => rfl)
  -- ret 1
  refine congrArg (D.int .i64) ?_
  clear hK3 hK5 hK6 hK7 hK8 hK9 hK10 hK11 hK12 hK15
  simp only [beq_iff_eq, beq_eq_false_iff_ne, ne_eq] at hc14
  simp only [fieldsV]
  first | (simp [hc14]; done) | (simp [hc14]; decide) | (simp_all; done) | (simp_all; decide) | grind
 ·
  refine WP.skip ?_
  refine hK12 _ ?_
  refine WP.seq fun K17 hK17 => ?_
  refine wr ?_
  refine ub ?_
  refine ua ?_
  refine u_nil ?_
  refine wc (fun hc19 => ?_) (fun hc19 => ?_) <;> try simp only [Q0, Q1, Q2, Q3, Q4, Q5, Q6, Q7, Q8, ge_iff_le, gt_iff_lt] at hc19
  ·
   refine WP.exit ?_
   refine hK9 _ ?_
   refine WP.seq fun K20 hK20 => ?_
   refine wr ?_
   refine ua ?_
   refine u_nil ?_
   refine WP.ret ?_
   refine ret_ok rfl ?_ (by omega) (fun _ _ => rfl)
   -- ret 2
   refine congrArg (D.int .i64) ?_
   clear hK3 hK5 hK6 hK7 hK8 hK9 hK10 hK11 hK12 hK17 hK20
   simp only [beq_iff_eq, beq_eq_false_iff_ne, ne_eq] at hc14 hc19
   simp only [fieldsV]
   first | (simp [hc14, hc19]; done) | (simp [hc14, hc19]; decide) | (simp_all; done) | (simp_all; decide) | grind
  ·
   refine WP.skip ?_
   refine hK17 _ ?_
   refine WP.seq fun K22 hK22 => ?_
   refine wr ?_
   refine ub ?_
   refine ua ?_
   refine u_nil ?_
   refine wc (fun hc24 => ?_) (fun hc24 => ?_) <;> try simp only [Q0, Q1, Q2, Q3, Q4, Q5, Q6, Q7, Q8, ge_iff_le, gt_iff_lt] at hc24
   ·
    refine WP.exit ?_
    refine hK8 _ ?_
    refine WP.reg tabOk rfl ?_
    refine ua ?_
    refine u_nil ?_
    refine hK7 _ ?_
    refine WP.seq fun K25 hK25 => ?_
    refine wr ?_
    refine um ?_
    refine ub ?_
    refine ub ?_
    refine ua ?_
    refine u_nil ?_
    refine WP.ret ?_
    refine ret_ok rfl ?_ (by omega) (fun _ _ => rfl)
    -- ret 3
    refine congrArg (D.int .i64) ?_
    clear hK3 hK5 hK6 hK7 hK8 hK9 hK10 hK11 hK12 hK17 hK22 hK25
    simp only [beq_iff_eq, beq_eq_false_iff_ne, ne_eq] at hc14 hc19 hc24
    simp only [fieldsV]
    first | (simp [hc14, hc19, hc24]; done) | (simp [hc14, hc19, hc24]; decide) | (simp_all; done) | (simp_all; decide) | grind
   ·
    refine WP.skip ?_
    refine hK22 _ ?_
    refine WP.seq fun K27 hK27 => ?_
    refine wr ?_
    refine ub ?_
    refine ua ?_
    refine u_nil ?_
    refine wc (fun hc29 => ?_) (fun hc29 => ?_) <;> try simp only [Q0, Q1, Q2, Q3, Q4, Q5, Q6, Q7, Q8, ge_iff_le, gt_iff_lt] at hc29
    ·
     refine WP.exit ?_
     refine hK7 _ ?_
     refine WP.seq fun K30 hK30 => ?_
     refine wr ?_
     refine um ?_
     refine ub ?_
     refine ub ?_
     refine ua ?_
     refine u_nil ?_
     refine WP.ret ?_
     refine ret_ok rfl ?_ (by omega) (fun _ _ => rfl)
     -- ret 4
     refine congrArg (D.int .i64) ?_
     clear hK3 hK5 hK6 hK7 hK8 hK9 hK10 hK11 hK12 hK17 hK22 hK27 hK30
     simp only [beq_iff_eq, beq_eq_false_iff_ne, ne_eq] at hc14 hc19 hc24 hc29
     simp only [fieldsV]
     first | (simp [hc14, hc19, hc24, hc29]; done) | (simp [hc14, hc19, hc24, hc29]; decide) | (simp_all; done) | (simp_all; decide) | grind
    ·
     refine WP.skip ?_
     refine hK27 _ ?_
     refine WP.seq fun K32 hK32 => ?_
     refine wr ?_
     refine ub ?_
     refine ua ?_
     refine u_nil ?_
     refine wc (fun hc34 => ?_) (fun hc34 => ?_) <;> try simp only [Q0, Q1, Q2, Q3, Q4, Q5, Q6, Q7, Q8, ge_iff_le, gt_iff_lt] at hc34
     ·
      refine WP.exit ?_
      refine hK6 _ ?_
      refine WP.seq fun K35 hK35 => ?_
      refine wr ?_
      refine ua ?_
      refine u_nil ?_
      refine WP.ret ?_
      refine ret_ok rfl ?_ (by omega) (fun _ _ => rfl)
      -- ret 5
      refine congrArg (D.int .i64) ?_
      clear hK3 hK5 hK6 hK7 hK8 hK9 hK10 hK11 hK12 hK17 hK22 hK27 hK32 hK35
      simp only [beq_iff_eq, beq_eq_false_iff_ne, ne_eq] at hc14 hc19 hc24 hc29 hc34
      simp only [fieldsV]
      first | (simp [hc14, hc19, hc24, hc29, hc34]; done) | (simp [hc14, hc19, hc24, hc29, hc34]; decide) | (simp_all; done) | (simp_all; decide) | grind
     ·
      refine WP.skip ?_
      refine hK32 _ ?_
      refine WP.seq fun K37 hK37 => ?_
      refine wr ?_
      refine ub ?_
      refine ua ?_
      refine u_nil ?_
      refine wc (fun hc39 => ?_) (fun hc39 => ?_) <;> try simp only [Q0, Q1, Q2, Q3, Q4, Q5, Q6, Q7, Q8, ge_iff_le, gt_iff_lt] at hc39
      ·
       refine WP.skip ?_
       refine hK37 _ ?_
       refine wc (fun hc40 => ?_) (fun hc40 => ?_) <;> try simp only [Q0, Q1, Q2, Q3, Q4, Q5, Q6, Q7, Q8, ge_iff_le, gt_iff_lt] at hc40
       ·
        refine WP.exit ?_
        refine hK5 _ ?_
        refine WP.seq fun K41 hK41 => ?_
        refine wr ?_
        refine ua ?_
        refine u_nil ?_
        refine WP.ret ?_
        refine ret_ok rfl ?_ (by omega) (fun _ _ => rfl)
        -- ret 6
        refine congrArg (D.int .i64) ?_
        clear hK3 hK5 hK6 hK7 hK8 hK9 hK10 hK11 hK12 hK17 hK22 hK27 hK32 hK37 hK41
        simp only [beq_iff_eq, beq_eq_false_iff_ne, ne_eq] at hc14 hc19 hc24 hc29 hc34 hc39 hc40
        simp only [fieldsV]
        first | (simp [hc14, hc19, hc24, hc29, hc34, hc39, hc40]; done) | (simp [hc14, hc19, hc24, hc29, hc34, hc39, hc40]; decide) | (simp_all; done) | (simp_all; decide) | grind
       ·
        refine WP.skip ?_
        refine hK11 _ ?_
        refine WP.exit ?_
        refine hK3 _ ?_
        refine wr ?_
        refine ua ?_
        refine u_nil ?_
        refine WP.ret ?_
        refine ret_ok rfl ?_ (by omega) (fun _ _ => rfl)
        -- ret 7
        refine congrArg (D.int .i64) ?_
        clear hK3 hK5 hK6 hK7 hK8 hK9 hK10 hK11 hK12 hK17 hK22 hK27 hK32 hK37
        simp only [beq_iff_eq, beq_eq_false_iff_ne, ne_eq] at hc14 hc19 hc24 hc29 hc34 hc39 hc40
        simp only [fieldsV]
        first | (simp [hc14, hc19, hc24, hc29, hc34, hc39, hc40]; done) | (simp [hc14, hc19, hc24, hc29, hc34, hc39, hc40]; decide) | (simp_all; done) | (simp_all; decide) | grind
      ·
       refine WP.reg tabOk rfl ?_
       refine ub ?_
       refine ua ?_
       refine u_nil ?_
       refine hK37 _ ?_
       refine wc (fun hc44 => ?_) (fun hc44 => ?_) <;> try simp only [Q0, Q1, Q2, Q3, Q4, Q5, Q6, Q7, Q8, ge_iff_le, gt_iff_lt] at hc44
       ·
        refine WP.exit ?_
        refine hK5 _ ?_
        refine WP.seq fun K45 hK45 => ?_
        refine wr ?_
        refine ua ?_
        refine u_nil ?_
        refine WP.ret ?_
        refine ret_ok rfl ?_ (by omega) (fun _ _ => rfl)
        -- ret 8
        refine congrArg (D.int .i64) ?_
        clear hK3 hK5 hK6 hK7 hK8 hK9 hK10 hK11 hK12 hK17 hK22 hK27 hK32 hK37 hK45
        simp only [beq_iff_eq, beq_eq_false_iff_ne, ne_eq] at hc14 hc19 hc24 hc29 hc34 hc39 hc44
        simp only [fieldsV]
        first | (simp [hc14, hc19, hc24, hc29, hc34, hc39, hc44]; done) | (simp [hc14, hc19, hc24, hc29, hc34, hc39, hc44]; decide) | (simp_all; done) | (simp_all; decide) | grind
       ·
        refine WP.skip ?_
        refine hK11 _ ?_
        refine WP.exit ?_
        refine hK3 _ ?_
        refine wr ?_
        refine ua ?_
        refine u_nil ?_
        refine WP.ret ?_
        refine ret_ok rfl ?_ (by omega) (fun _ _ => rfl)
        -- ret 9
        refine congrArg (D.int .i64) ?_
        clear hK3 hK5 hK6 hK7 hK8 hK9 hK10 hK11 hK12 hK17 hK22 hK27 hK32 hK37
        simp only [beq_iff_eq, beq_eq_false_iff_ne, ne_eq] at hc14 hc19 hc24 hc29 hc34 hc39 hc44
        simp only [fieldsV]
        first | (simp [hc14, hc19, hc24, hc29, hc34, hc39, hc44]; done) | (simp [hc14, hc19, hc24, hc29, hc34, hc39, hc44]; decide) | (simp_all; done) | (simp_all; decide) | grind

end Go.Proofs.YtmielecljgfnaaaGreat.Abs

set_option linter.unusedVariables false
set_option linter.unusedSimpArgs false
set_option maxRecDepth 10000
namespace Go.Proofs.YtmielecljgfnaaaGreat.Abs
open Go
theorem retT_ok {ts : List Nat} {sl : Nat → SV} {o o0 : Nat → Option AO} {nk nk0 : Nat} {xs : List D} (h1 : resOf ts ⟨sl, o, nk⟩ = .tup (xs.map .d)) (h3 : nk0 ≤ nk) (h4 : ∀ t, t < nk0 → o t = o0 t) :
    retQ ts (fun r o' nk' => r = .tup (xs.map .d) ∧ nk0 ≤ nk' ∧ ∀ t, t < nk0 → o' t = o0 t) .ret ⟨sl, o, nk⟩ := ⟨h1, h3, h4⟩
/-- Which parts an entry has, by its kind: a name, another one, an id, a document, changes. -/
def hasL (k : Int) : List D :=
  if k = 2 then [.bool true, .bool false, .bool true, .bool true, .bool false]
  else if k = 3 then [.bool true, .bool false, .bool true, .bool false, .bool true]
  else if k = 4 then [.bool true, .bool false, .bool true, .bool false, .bool false]
  else if k = 5 ∨ k = 6 then [.bool true, .bool false, .bool false, .bool false, .bool false]
  else if k = 7 then [.bool true, .bool true, .bool false, .bool false, .bool false]
  else [.bool false, .bool false, .bool false, .bool false, .bool false]

theorem fn117 : FnOk Tryz.prog 117 19 [2, 3, 4, 5, 6] (bodyOf Tryz.f117) := ⟨Tryz.f117, Tryz.func117, by kernel_rfl, by decide, by kernel_rfl, by kernel_rfl⟩
theorem s117 (k : Int) : PSpec Tryz.prog 117 [.d (.int .i64 k)] (.tup ((hasL k).map .d)) := by
 refine PSpec.of2 fn117 (by simp) fun o nk => ?_
 refine wr ?_
 refine ua ?_
 refine ua ?_
 refine ua ?_
 refine ua ?_
 refine ua ?_
 refine u_nil ?_
 refine WP.seq fun K2 hK2 => ?_
 refine wr ?_
 refine um ?_
 refine u_nil ?_
 refine WP.block ?_
 refine wr ?_
 refine ub ?_
 refine ua ?_
 refine u_nil ?_
 refine wc (fun hc5 => ?_) (fun hc5 => ?_) <;> try simp only [Q0, Q1, Q2, Q3, Q4, Q5, Q6, Q7, Q8, ge_iff_le, gt_iff_lt] at hc5
 ·
  refine wr ?_
  refine ua ?_
  refine ua ?_
  refine ua ?_
  refine ua ?_
  refine ua ?_
  refine u_nil ?_
  refine WP.ret ?_
  refine retT_ok ?_ (by omega) (fun _ _ => rfl)
  clear hK2
  simp only [beq_iff_eq, beq_eq_false_iff_ne, ne_eq] at hc5
  first | exact (show SV.tup (List.map SV.d [.bool true, .bool false, .bool true, .bool true, .bool false]) = _ from by rw [show hasL k = [.bool true, .bool false, .bool true, .bool true, .bool false] from by simp only [hasL]; grind]) | exact (show SV.tup (List.map SV.d [.bool true, .bool false, .bool true, .bool false, .bool true]) = _ from by rw [show hasL k = [.bool true, .bool false, .bool true, .bool false, .bool true] from by simp only [hasL]; grind]) | exact (show SV.tup (List.map SV.d [.bool true, .bool false, .bool true, .bool false, .bool false]) = _ from by rw [show hasL k = [.bool true, .bool false, .bool true, .bool false, .bool false] from by simp only [hasL]; grind]) | exact (show SV.tup (List.map SV.d [.bool true, .bool false, .bool false, .bool false, .bool false]) = _ from by rw [show hasL k = [.bool true, .bool false, .bool false, .bool false, .bool false] from by simp only [hasL]; grind]) | exact (show SV.tup (List.map SV.d [.bool true, .bool true, .bool false, .bool false, .bool false]) = _ from by rw [show hasL k = [.bool true, .bool true, .bool false, .bool false, .bool false] from by simp only [hasL]; grind]) | exact (show SV.tup (List.map SV.d [.bool false, .bool false, .bool false, .bool false, .bool false]) = _ from by rw [show hasL k = [.bool false, .bool false, .bool false, .bool false, .bool false] from by simp only [hasL]; grind])
 ·
  refine wr ?_
  refine ub ?_
  refine ua ?_
  refine u_nil ?_
  refine wc (fun hc8 => ?_) (fun hc8 => ?_) <;> try simp only [Q0, Q1, Q2, Q3, Q4, Q5, Q6, Q7, Q8, ge_iff_le, gt_iff_lt] at hc8
  ·
   refine wr ?_
   refine ua ?_
   refine ua ?_
   refine ua ?_
   refine ua ?_
   refine ua ?_
   refine u_nil ?_
   refine WP.ret ?_
   refine retT_ok ?_ (by omega) (fun _ _ => rfl)
   clear hK2
   simp only [beq_iff_eq, beq_eq_false_iff_ne, ne_eq] at hc5 hc8
   first | exact (show SV.tup (List.map SV.d [.bool true, .bool false, .bool true, .bool true, .bool false]) = _ from by rw [show hasL k = [.bool true, .bool false, .bool true, .bool true, .bool false] from by simp only [hasL]; grind]) | exact (show SV.tup (List.map SV.d [.bool true, .bool false, .bool true, .bool false, .bool true]) = _ from by rw [show hasL k = [.bool true, .bool false, .bool true, .bool false, .bool true] from by simp only [hasL]; grind]) | exact (show SV.tup (List.map SV.d [.bool true, .bool false, .bool true, .bool false, .bool false]) = _ from by rw [show hasL k = [.bool true, .bool false, .bool true, .bool false, .bool false] from by simp only [hasL]; grind]) | exact (show SV.tup (List.map SV.d [.bool true, .bool false, .bool false, .bool false, .bool false]) = _ from by rw [show hasL k = [.bool true, .bool false, .bool false, .bool false, .bool false] from by simp only [hasL]; grind]) | exact (show SV.tup (List.map SV.d [.bool true, .bool true, .bool false, .bool false, .bool false]) = _ from by rw [show hasL k = [.bool true, .bool true, .bool false, .bool false, .bool false] from by simp only [hasL]; grind]) | exact (show SV.tup (List.map SV.d [.bool false, .bool false, .bool false, .bool false, .bool false]) = _ from by rw [show hasL k = [.bool false, .bool false, .bool false, .bool false, .bool false] from by simp only [hasL]; grind])
  ·
   refine wr ?_
   refine ub ?_
   refine ua ?_
   refine u_nil ?_
   refine wc (fun hc11 => ?_) (fun hc11 => ?_) <;> try simp only [Q0, Q1, Q2, Q3, Q4, Q5, Q6, Q7, Q8, ge_iff_le, gt_iff_lt] at hc11
   ·
    refine wr ?_
    refine ua ?_
    refine ua ?_
    refine ua ?_
    refine ua ?_
    refine ua ?_
    refine u_nil ?_
    refine WP.ret ?_
    refine retT_ok ?_ (by omega) (fun _ _ => rfl)
    clear hK2
    simp only [beq_iff_eq, beq_eq_false_iff_ne, ne_eq] at hc5 hc8 hc11
    first | exact (show SV.tup (List.map SV.d [.bool true, .bool false, .bool true, .bool true, .bool false]) = _ from by rw [show hasL k = [.bool true, .bool false, .bool true, .bool true, .bool false] from by simp only [hasL]; grind]) | exact (show SV.tup (List.map SV.d [.bool true, .bool false, .bool true, .bool false, .bool true]) = _ from by rw [show hasL k = [.bool true, .bool false, .bool true, .bool false, .bool true] from by simp only [hasL]; grind]) | exact (show SV.tup (List.map SV.d [.bool true, .bool false, .bool true, .bool false, .bool false]) = _ from by rw [show hasL k = [.bool true, .bool false, .bool true, .bool false, .bool false] from by simp only [hasL]; grind]) | exact (show SV.tup (List.map SV.d [.bool true, .bool false, .bool false, .bool false, .bool false]) = _ from by rw [show hasL k = [.bool true, .bool false, .bool false, .bool false, .bool false] from by simp only [hasL]; grind]) | exact (show SV.tup (List.map SV.d [.bool true, .bool true, .bool false, .bool false, .bool false]) = _ from by rw [show hasL k = [.bool true, .bool true, .bool false, .bool false, .bool false] from by simp only [hasL]; grind]) | exact (show SV.tup (List.map SV.d [.bool false, .bool false, .bool false, .bool false, .bool false]) = _ from by rw [show hasL k = [.bool false, .bool false, .bool false, .bool false, .bool false] from by simp only [hasL]; grind])
   ·
    refine WP.seq fun K13 hK13 => ?_
    refine wr ?_
    refine ub ?_
    refine ua ?_
    refine u_nil ?_
    refine wc (fun hc15 => ?_) (fun hc15 => ?_) <;> try simp only [Q0, Q1, Q2, Q3, Q4, Q5, Q6, Q7, Q8, ge_iff_le, gt_iff_lt] at hc15
    ·
     refine WP.skip ?_
     refine hK13 _ ?_
     refine wc (fun hc16 => ?_) (fun hc16 => ?_) <;> try simp only [Q0, Q1, Q2, Q3, Q4, Q5, Q6, Q7, Q8, ge_iff_le, gt_iff_lt] at hc16
     ·
      refine wr ?_
      refine ua ?_
      refine ua ?_
      refine ua ?_
      refine ua ?_
      refine ua ?_
      refine u_nil ?_
      refine WP.ret ?_
      refine retT_ok ?_ (by omega) (fun _ _ => rfl)
      clear hK2 hK13
      simp only [beq_iff_eq, beq_eq_false_iff_ne, ne_eq] at hc5 hc8 hc11 hc15 hc16
      first | exact (show SV.tup (List.map SV.d [.bool true, .bool false, .bool true, .bool true, .bool false]) = _ from by rw [show hasL k = [.bool true, .bool false, .bool true, .bool true, .bool false] from by simp only [hasL]; grind]) | exact (show SV.tup (List.map SV.d [.bool true, .bool false, .bool true, .bool false, .bool true]) = _ from by rw [show hasL k = [.bool true, .bool false, .bool true, .bool false, .bool true] from by simp only [hasL]; grind]) | exact (show SV.tup (List.map SV.d [.bool true, .bool false, .bool true, .bool false, .bool false]) = _ from by rw [show hasL k = [.bool true, .bool false, .bool true, .bool false, .bool false] from by simp only [hasL]; grind]) | exact (show SV.tup (List.map SV.d [.bool true, .bool false, .bool false, .bool false, .bool false]) = _ from by rw [show hasL k = [.bool true, .bool false, .bool false, .bool false, .bool false] from by simp only [hasL]; grind]) | exact (show SV.tup (List.map SV.d [.bool true, .bool true, .bool false, .bool false, .bool false]) = _ from by rw [show hasL k = [.bool true, .bool true, .bool false, .bool false, .bool false] from by simp only [hasL]; grind]) | exact (show SV.tup (List.map SV.d [.bool false, .bool false, .bool false, .bool false, .bool false]) = _ from by rw [show hasL k = [.bool false, .bool false, .bool false, .bool false, .bool false] from by simp only [hasL]; grind])
     ·
      refine wr ?_
      refine ub ?_
      refine ua ?_
      refine u_nil ?_
      refine wc (fun hc19 => ?_) (fun hc19 => ?_) <;> try simp only [Q0, Q1, Q2, Q3, Q4, Q5, Q6, Q7, Q8, ge_iff_le, gt_iff_lt] at hc19
      ·
       refine wr ?_
       refine ua ?_
       refine ua ?_
       refine ua ?_
       refine ua ?_
       refine ua ?_
       refine u_nil ?_
       refine WP.ret ?_
       refine retT_ok ?_ (by omega) (fun _ _ => rfl)
       clear hK2 hK13
       simp only [beq_iff_eq, beq_eq_false_iff_ne, ne_eq] at hc5 hc8 hc11 hc15 hc16 hc19
       first | exact (show SV.tup (List.map SV.d [.bool true, .bool false, .bool true, .bool true, .bool false]) = _ from by rw [show hasL k = [.bool true, .bool false, .bool true, .bool true, .bool false] from by simp only [hasL]; grind]) | exact (show SV.tup (List.map SV.d [.bool true, .bool false, .bool true, .bool false, .bool true]) = _ from by rw [show hasL k = [.bool true, .bool false, .bool true, .bool false, .bool true] from by simp only [hasL]; grind]) | exact (show SV.tup (List.map SV.d [.bool true, .bool false, .bool true, .bool false, .bool false]) = _ from by rw [show hasL k = [.bool true, .bool false, .bool true, .bool false, .bool false] from by simp only [hasL]; grind]) | exact (show SV.tup (List.map SV.d [.bool true, .bool false, .bool false, .bool false, .bool false]) = _ from by rw [show hasL k = [.bool true, .bool false, .bool false, .bool false, .bool false] from by simp only [hasL]; grind]) | exact (show SV.tup (List.map SV.d [.bool true, .bool true, .bool false, .bool false, .bool false]) = _ from by rw [show hasL k = [.bool true, .bool true, .bool false, .bool false, .bool false] from by simp only [hasL]; grind]) | exact (show SV.tup (List.map SV.d [.bool false, .bool false, .bool false, .bool false, .bool false]) = _ from by rw [show hasL k = [.bool false, .bool false, .bool false, .bool false, .bool false] from by simp only [hasL]; grind])
      ·
       refine WP.skip ?_
       refine hK2 _ ?_
       refine wr ?_
       refine ua ?_
       refine ua ?_
       refine ua ?_
       refine ua ?_
       refine ua ?_
       refine u_nil ?_
       refine WP.ret ?_
       refine retT_ok ?_ (by omega) (fun _ _ => rfl)
       clear hK2 hK13
       simp only [beq_iff_eq, beq_eq_false_iff_ne, ne_eq] at hc5 hc8 hc11 hc15 hc16 hc19
       first | exact (show SV.tup (List.map SV.d [.bool true, .bool false, .bool true, .bool true, .bool false]) = _ from by rw [show hasL k = [.bool true, .bool false, .bool true, .bool true, .bool false] from by simp only [hasL]; grind]) | exact (show SV.tup (List.map SV.d [.bool true, .bool false, .bool true, .bool false, .bool true]) = _ from by rw [show hasL k = [.bool true, .bool false, .bool true, .bool false, .bool true] from by simp only [hasL]; grind]) | exact (show SV.tup (List.map SV.d [.bool true, .bool false, .bool true, .bool false, .bool false]) = _ from by rw [show hasL k = [.bool true, .bool false, .bool true, .bool false, .bool false] from by simp only [hasL]; grind]) | exact (show SV.tup (List.map SV.d [.bool true, .bool false, .bool false, .bool false, .bool false]) = _ from by rw [show hasL k = [.bool true, .bool false, .bool false, .bool false, .bool false] from by simp only [hasL]; grind]) | exact (show SV.tup (List.map SV.d [.bool true, .bool true, .bool false, .bool false, .bool false]) = _ from by rw [show hasL k = [.bool true, .bool true, .bool false, .bool false, .bool false] from by simp only [hasL]; grind]) | exact (show SV.tup (List.map SV.d [.bool false, .bool false, .bool false, .bool false, .bool false]) = _ from by rw [show hasL k = [.bool false, .bool false, .bool false, .bool false, .bool false] from by simp only [hasL]; grind])
    ·
     refine WP.reg tabOk rfl ?_
     refine ub ?_
     refine ua ?_
     refine u_nil ?_
     refine hK13 _ ?_
     refine wc (fun hc22 => ?_) (fun hc22 => ?_) <;> try simp only [Q0, Q1, Q2, Q3, Q4, Q5, Q6, Q7, Q8, ge_iff_le, gt_iff_lt] at hc22
     ·
      refine wr ?_
      refine ua ?_
      refine ua ?_
      refine ua ?_
      refine ua ?_
      refine ua ?_
      refine u_nil ?_
      refine WP.ret ?_
      refine retT_ok ?_ (by omega) (fun _ _ => rfl)
      clear hK2 hK13
      simp only [beq_iff_eq, beq_eq_false_iff_ne, ne_eq] at hc5 hc8 hc11 hc15 hc22
      first | exact (show SV.tup (List.map SV.d [.bool true, .bool false, .bool true, .bool true, .bool false]) = _ from by rw [show hasL k = [.bool true, .bool false, .bool true, .bool true, .bool false] from by simp only [hasL]; grind]) | exact (show SV.tup (List.map SV.d [.bool true, .bool false, .bool true, .bool false, .bool true]) = _ from by rw [show hasL k = [.bool true, .bool false, .bool true, .bool false, .bool true] from by simp only [hasL]; grind]) | exact (show SV.tup (List.map SV.d [.bool true, .bool false, .bool true, .bool false, .bool false]) = _ from by rw [show hasL k = [.bool true, .bool false, .bool true, .bool false, .bool false] from by simp only [hasL]; grind]) | exact (show SV.tup (List.map SV.d [.bool true, .bool false, .bool false, .bool false, .bool false]) = _ from by rw [show hasL k = [.bool true, .bool false, .bool false, .bool false, .bool false] from by simp only [hasL]; grind]) | exact (show SV.tup (List.map SV.d [.bool true, .bool true, .bool false, .bool false, .bool false]) = _ from by rw [show hasL k = [.bool true, .bool true, .bool false, .bool false, .bool false] from by simp only [hasL]; grind]) | exact (show SV.tup (List.map SV.d [.bool false, .bool false, .bool false, .bool false, .bool false]) = _ from by rw [show hasL k = [.bool false, .bool false, .bool false, .bool false, .bool false] from by simp only [hasL]; grind])
     ·
      refine wr ?_
      refine ub ?_
      refine ua ?_
      refine u_nil ?_
      refine wc (fun hc25 => ?_) (fun hc25 => ?_) <;> try simp only [Q0, Q1, Q2, Q3, Q4, Q5, Q6, Q7, Q8, ge_iff_le, gt_iff_lt] at hc25
      ·
       refine wr ?_
       refine ua ?_
       refine ua ?_
       refine ua ?_
       refine ua ?_
       refine ua ?_
       refine u_nil ?_
       refine WP.ret ?_
       refine retT_ok ?_ (by omega) (fun _ _ => rfl)
       clear hK2 hK13
       simp only [beq_iff_eq, beq_eq_false_iff_ne, ne_eq] at hc5 hc8 hc11 hc15 hc22 hc25
       first | exact (show SV.tup (List.map SV.d [.bool true, .bool false, .bool true, .bool true, .bool false]) = _ from by rw [show hasL k = [.bool true, .bool false, .bool true, .bool true, .bool false] from by simp only [hasL]; grind]) | exact (show SV.tup (List.map SV.d [.bool true, .bool false, .bool true, .bool false, .bool true]) = _ from by rw [show hasL k = [.bool true, .bool false, .bool true, .bool false, .bool true] from by simp only [hasL]; grind]) | exact (show SV.tup (List.map SV.d [.bool true, .bool false, .bool true, .bool false, .bool false]) = _ from by rw [show hasL k = [.bool true, .bool false, .bool true, .bool false, .bool false] from by simp only [hasL]; grind]) | exact (show SV.tup (List.map SV.d [.bool true, .bool false, .bool false, .bool false, .bool false]) = _ from by rw [show hasL k = [.bool true, .bool false, .bool false, .bool false, .bool false] from by simp only [hasL]; grind]) | exact (show SV.tup (List.map SV.d [.bool true, .bool true, .bool false, .bool false, .bool false]) = _ from by rw [show hasL k = [.bool true, .bool true, .bool false, .bool false, .bool false] from by simp only [hasL]; grind]) | exact (show SV.tup (List.map SV.d [.bool false, .bool false, .bool false, .bool false, .bool false]) = _ from by rw [show hasL k = [.bool false, .bool false, .bool false, .bool false, .bool false] from by simp only [hasL]; grind])
      ·
       refine WP.skip ?_
       refine hK2 _ ?_
       refine wr ?_
       refine ua ?_
       refine ua ?_
       refine ua ?_
       refine ua ?_
       refine ua ?_
       refine u_nil ?_
       refine WP.ret ?_
       refine retT_ok ?_ (by omega) (fun _ _ => rfl)
       clear hK2 hK13
       simp only [beq_iff_eq, beq_eq_false_iff_ne, ne_eq] at hc5 hc8 hc11 hc15 hc22 hc25
       first | exact (show SV.tup (List.map SV.d [.bool true, .bool false, .bool true, .bool true, .bool false]) = _ from by rw [show hasL k = [.bool true, .bool false, .bool true, .bool true, .bool false] from by simp only [hasL]; grind]) | exact (show SV.tup (List.map SV.d [.bool true, .bool false, .bool true, .bool false, .bool true]) = _ from by rw [show hasL k = [.bool true, .bool false, .bool true, .bool false, .bool true] from by simp only [hasL]; grind]) | exact (show SV.tup (List.map SV.d [.bool true, .bool false, .bool true, .bool false, .bool false]) = _ from by rw [show hasL k = [.bool true, .bool false, .bool true, .bool false, .bool false] from by simp only [hasL]; grind]) | exact (show SV.tup (List.map SV.d [.bool true, .bool false, .bool false, .bool false, .bool false]) = _ from by rw [show hasL k = [.bool true, .bool false, .bool false, .bool false, .bool false] from by simp only [hasL]; grind]) | exact (show SV.tup (List.map SV.d [.bool true, .bool true, .bool false, .bool false, .bool false]) = _ from by rw [show hasL k = [.bool true, .bool true, .bool false, .bool false, .bool false] from by simp only [hasL]; grind]) | exact (show SV.tup (List.map SV.d [.bool false, .bool false, .bool false, .bool false, .bool false]) = _ from by rw [show hasL k = [.bool false, .bool false, .bool false, .bool false, .bool false] from by simp only [hasL]; grind])

end Go.Proofs.YtmielecljgfnaaaGreat.Abs

set_option linter.unusedVariables false
set_option linter.unusedSimpArgs false
set_option maxRecDepth 10000
namespace Go.Proofs.YtmielecljgfnaaaGreat.Abs
open Go
theorem PSpec.of2C {P : Program} {Θ : Tab} (hΘ : TabOk P Θ) {f : FuncId} {n : Nat} {rs : List ResultVar} {c : Code} {args : List SV} {xs : List D} (hf : FnOkC P f n rs c) (hn : args.length ≤ n)
    (h : ∀ o nk, WP P n nk c ⟨slots args, o, nk⟩ (retC Θ rs fun r o' nk' => r = .tup (xs.map .d) ∧ nk ≤ nk' ∧ ∀ t, t < nk → o' t = o t)) : PSpec P f args (.tup (xs.map .d)) := fun o nk => by
  refine Spec.pure (fun m => ?_) ?_ (Spec.of_bodyC hΘ hf hn (h o nk))
  · exact lts_of fun i c hc => by
      rw [List.getElem?_map] at hc
      obtain ⟨d, _, rfl⟩ := Option.map_eq_some_iff.1 hc
      trivial
  · show SV.tup (SV.rens id (xs.map .d)) = _
    rw [SV.rens_id]
theorem retC_ok {Θ : Tab} {a t b : Nat} {sl : Nat → SV} {o o0 : Nat → Option AO} {nk nk0 : Nat} {x y x' y' : D} (h1 : ResIs Θ ⟨sl, o, nk⟩ (.cell a t) (.d x')) (h2 : sl b = .d y') (hx : x' = x) (hy : y' = y) (h3 : nk0 ≤ nk) (h4 : ∀ t, t < nk0 → o t = o0 t) :
    retC Θ [.cell a t, .tmp b] (fun r o' nk' => r = .tup ([x, y].map .d) ∧ nk0 ≤ nk' ∧ ∀ t, t < nk0 → o' t = o0 t) .ret ⟨sl, o, nk⟩ :=
  ⟨[.d x', .d y'], ⟨h1, h2.symm, trivial⟩, by rw [hx, hy]; rfl, h3, h4⟩
end Go.Proofs.YtmielecljgfnaaaGreat.Abs

set_option linter.unusedVariables false
set_option linter.unusedSimpArgs false
set_option maxRecDepth 10000
namespace Go.Proofs.YtmielecljgfnaaaGreat.Abs
open Go
/-- The number that digits say. -/
def digN : Str → Nat → Nat
  | [], n => n
  | c :: s, n => digN s (10 * n + (c.toNat - 48))
def isDig (c : UInt8) : Bool := decide (48 ≤ c.toNat) && decide (c.toNat ≤ 57)
/-- The index that a step says; -1 if none. -/
def stepI (s : Str) : Int := if s.length < 1 ∨ 3 < s.length ∨ (s[0]? = some 48 ∧ 1 < s.length) then -1 else if s.all isDig then (digN s 0 : Int) else -1
theorem digN_snoc : ∀ (s : Str) (c : UInt8) (n : Nat), digN (s ++ [c]) n = 10 * digN s n + (c.toNat - 48)
  | [], c, n => rfl
  | x :: s, c, n => by simp only [List.cons_append, digN]; exact digN_snoc s c _
theorem digN_lt : ∀ (s : Str) (n m : Nat), s.all isDig = true → n < 10 ^ m → digN s n < 10 ^ (m + s.length)
  | [], n, m, _, hn => hn
  | c :: s, n, m, h, hn => by
    simp only [List.all_cons, Bool.and_eq_true, isDig, decide_eq_true_eq] at h
    have h1 : 10 * n + (c.toNat - 48) < 10 ^ (m + 1) := by rw [Nat.pow_succ]; omega
    have := digN_lt s (10 * n + (c.toNat - 48)) (m + 1) (by simpa [isDig] using h.2) h1
    simp only [digN, List.length_cons]
    rwa [show m + (s.length + 1) = m + 1 + s.length by omega]
theorem digN_le {s : Str} (h : s.all isDig = true) (hl : s.length ≤ 3) : digN s 0 < 1000 := by
  have := digN_lt s 0 0 h (by simp)
  have h2 : 10 ^ (0 + s.length) ≤ 10 ^ 3 := Nat.pow_le_pow_right (by omega) (by omega)
  omega
theorem dig_step {n : Nat} {c : UInt8} (hn : n < 1000) (h1 : 48 ≤ c.toNat) : SV.d (.int .i64 (IntKind.i64.wrap (IntKind.i64.wrap (10 * (n : Int)) + IntKind.i64.wrap (IntKind.u8.wrap ((c.toNat : Int) - 48))))) = SV.d (.int .i64 ((10 * n + (c.toNat - 48) : Nat) : Int)) := by
  have hc : c.toNat < 256 := c.toNat_lt
  rw [wrap_u8, wrap_i64 (m := 10 * (n : Int)) (by omega) (by omega), wrap_i64 (m := ((c.toNat : Int) - 48) % 256) (by omega) (by omega), wrap_i64 (by omega) (by omega)]
  refine congrArg (fun m : Int => SV.d (.int .i64 m)) ?_
  omega
theorem stepI_neg {s : Str} (h1 : 1 ≤ s.length) (h3 : s.length ≤ 3) {a b : Bool} (hq : (a || b) = false ∧ (decide (bAt s (0 : Int).toNat = 48) && decide ((1 : Int) < s.length)) = false) : stepI s = if s.all isDig then (digN s 0 : Int) else -1 := by
  have h0 : 0 < s.length := by omega
  unfold stepI
  rw [if_neg]
  rintro (h | h | ⟨h, h2⟩)
  · omega
  · omega
  · have hq2 := hq.2
    rw [List.getElem?_eq_getElem h0, Option.some.injEq] at h
    rw [Int.toNat_zero, bAt_eq h0, h] at hq2
    simp at hq2
    omega

theorem fn218 : FnOk Tryz.prog 218 48 [2] (bodyOf Tryz.f218) := ⟨Tryz.f218, Tryz.func218, by kernel_rfl, by decide, by kernel_rfl, by kernel_rfl⟩
theorem s218 (s : Str) : PSpec Tryz.prog 218 [.d (.str s)] (.d (.int .i64 (stepI s))) := by
 refine PSpec.of fn218 (by simp) fun o nk => ?_
 refine wr ?_
 refine ua ?_
 refine u_nil ?_
 refine WP.seq fun K2 hK2 => ?_
 refine wr ?_
 refine um ?_
 refine u_step (o_len_str rfl th9 rfl ?_)
 refine ub ?_
 refine um ?_
 apply gF
 · rfl
 · intro hg
   exact pm
 apply gF
 · rfl
 · intro hg; try simp only [hg, ct]; try simp only [hg, ct, Bt]
   refine o_len_str rfl th9 rfl ⟨rfl, rfl, rfl⟩
 apply gF
 · rfl
 · intro hg; try simp only [hg, ct]; try simp only [hg, ct, Bt]
   exact pb
 refine uO ?_
 refine um ?_
 apply gF
 · rfl
 · intro hg
   exact pm
 apply gF
 · rfl
 · intro hg; try simp only [hg, ct]; try simp only [hg, ct, Bt]
   have hg2 := hg; try simp only [Q0, Q1, Q2, Q3, Q4, Q5, Q6, Q9, Qa, Qb, Qc, Qd] at hg2
   refine o_ix rfl rfl th9 rfl ?_ ?_ ⟨rfl, rfl, rfl⟩
   · decide
   · simp at hg2; simp; omega
 apply gF
 · rfl
 · intro hg; try simp only [hg, ct]; try simp only [hg, ct, Bt]
   exact pb
 apply gF
 · rfl
 · intro hg; try simp only [hg, ct]; try simp only [hg, ct, Bt]
   exact pm
 apply u_guard
 · exact GC.ct _ _
 · intro hg
   exact pm
 apply u_guard
 · exact GC.ct _ _
 · intro hg; try simp only [hg, ct]; try simp only [hg, ct, Bt]
   refine o_len_str rfl th9 rfl ⟨rfl, rfl, rfl⟩
 apply u_guard
 · exact GC.ct _ _
 · intro hg; try simp only [hg, ct]; try simp only [hg, ct, Bt]
   exact pb
 apply gF
 · rfl
 · intro hg; try simp only [hg, ct]; try simp only [hg, ct, Bt]
   exact pA
 refine uO ?_
 refine u_nil ?_
 refine wc (fun hc4 => ?_) (fun hc4 => ?_) <;> try simp only [Q0, Q1, Q2, Q3, Q4, Q5, Q6, Q7, Q8, ge_iff_le, gt_iff_lt] at hc4
 ·
  refine wr ?_
  refine ua ?_
  refine u_nil ?_
  refine WP.ret ?_
  refine ret_ok rfl ?_ (by omega) (fun _ _ => rfl)
  -- ret 1
  clear hK2
  refine congrArg (D.int .i64) ?_
  have hq := hc4
  simp only [stepI]
  rw [if_pos]
  simp only [Bool.or_eq_true, Bool.and_eq_true, decide_eq_true_eq, beq_iff_eq] at hq
  rcases hq with (h | h) | ⟨h, h2⟩
  · exact .inl (by omega)
  · exact .inr (.inl (by omega))
  · refine .inr (.inr ⟨?_, by omega⟩)
    have h0 : 0 < s.length := by omega
    rw [Int.toNat_zero, bAt_eq h0] at h
    rw [List.getElem?_eq_getElem h0, (toNat_eq (n := 48) (by omega)).1 h]; rfl
 ·
  have hq := Bool.or_eq_false_iff.1 hc4
  have hq1 := Bool.or_eq_false_iff.1 hq.1
  have hl1 : 1 ≤ s.length := by have := hq1.1; simp at this; omega
  have hl3 : s.length ≤ 3 := by have := hq1.2; simp at this; omega
  refine WP.skip ?_
  refine hK2 _ ?_
  refine wr ?_
  refine ua ?_
  refine u_nil ?_
  refine WP.seq fun K7 hK7 => ?_
  refine wr ?_
  refine ua ?_
  refine u_nil ?_
  refine WP.block ?_
  refine WP.loopL (ι := Nat) (fun i => ⟨al [(0, .d (.str s)), (3, .d (.int .i64 (digN (s.take i) 0 : Nat))), (4, .d (.int .i64 i))], o, nk⟩) (fun i => i ≤ s.length ∧ (s.take i).all isDig = true) (fun i => s.length - i) (fun i hA => ?_) 0 ?_ ?_
  ·
   obtain ⟨hle_i, hin_i⟩ := hA
   refine WP.seq fun K9 hK9 => ?_
   refine wr ?_
   refine um ?_
   refine um ?_
   refine u_step (o_len_str rfl th9 rfl ?_)
   refine ub ?_
   refine u_nil ?_
   refine wc (fun hc11 => ?_) (fun hc11 => ?_) <;> try simp only [Q0, Q1, Q2, Q3, Q4, Q5, Q6, Q7, Q8, ge_iff_le, gt_iff_lt] at hc11
   ·
    refine WP.skip ?_
    refine hK9 _ ?_
    refine WP.seq fun K12 hK12 => ?_
    refine WP.block ?_
    refine WP.seq fun K13 hK13 => ?_
    refine wr ?_
    refine um ?_
    refine um ?_
    refine u_step (o_ix rfl rfl th9 rfl ?_ ?_ ?_)
    · first | exact Int.natCast_nonneg _ | decide
    · first | assumption | (simp; omega) | omega
    refine ub ?_
    refine um ?_
    apply gF
    · rfl
    · intro hg
      exact pm
    apply gF
    · rfl
    · intro hg
      exact pm
    apply gF
    · rfl
    · intro hg; try simp only [hg, ct]; try simp only [hg, ct, Bt]
      have hg2 := hg; try simp only [Q0, Q1, Q2, Q3, Q4, Q5, Q6, Q9, Qa, Qb, Qc, Qd] at hg2
      refine o_ix rfl rfl th9 rfl ?_ ?_ ⟨rfl, rfl, rfl⟩
      · first | exact Int.natCast_nonneg _ | decide
      · first | assumption | (simp; omega) | omega
    apply gF
    · rfl
    · intro hg; try simp only [hg, ct]; try simp only [hg, ct, Bt]
      exact pb
    refine uO ?_
    refine u_nil ?_
    refine wc (fun hc15 => ?_) (fun hc15 => ?_) <;> try simp only [Q0, Q1, Q2, Q3, Q4, Q5, Q6, Q7, Q8, ge_iff_le, gt_iff_lt] at hc15
    ·
     refine wr ?_
     refine ua ?_
     refine u_nil ?_
     refine WP.ret ?_
     refine ret_ok rfl ?_ (by omega) (fun _ _ => rfl)
     -- ret 2
     clear hK2 hK7 hK9 hK12 hK13
     have hn := stepI_neg hl1 hl3 hq
     have he := bAt_eq (l := s) (i := i) (by omega)
     have hb := hc15
     simp only [Int.toNat_natCast, he, Bool.or_eq_true, decide_eq_true_eq] at hb
     have hd : isDig s[i] = false := by simp only [isDig, Bool.and_eq_false_iff, decide_eq_false_iff_not]; omega
     rw [hn, if_neg (by rw [all_false (p := isDig) (by omega) hd]; simp)]
    ·
     refine WP.skip ?_
     refine hK13 _ ?_
     refine WP.reg tabOk rfl ?_
     refine um ?_
     refine ub ?_
     refine um ?_
     refine um ?_
     refine u_step (o_ix rfl rfl th9 rfl ?_ ?_ ?_)
     · first | exact Int.natCast_nonneg _ | decide
     · first | assumption | (simp; omega) | omega
     refine ub ?_
     refine uc th5 th3 ?_
     refine ub ?_
     refine ua ?_
     refine u_nil ?_
     refine hK12 _ ?_
     refine WP.reg tabOk rfl ?_
     refine um ?_
     refine ub ?_
     refine ua ?_
     refine u_nil ?_
     -- back
     have hb := Bool.or_eq_false_iff.1 hc15
     have he := bAt_eq (l := s) (i := i) (by omega)
     simp only [Int.toNat_natCast, he, decide_eq_false_iff_not] at hb
     have hd : isDig s[i] = true := by simp only [isDig, Bool.and_eq_true, decide_eq_true_eq]; omega
     have hlt := digN_le hin_i (by simp; omega)
     refine ⟨i + 1, ⟨by omega, by rw [all_snoc (by omega), hin_i, hd]; rfl⟩, by omega, ?_⟩
     refine Le.al ?_
     simp only [List.forall_mem_cons]
     refine ⟨rfl, ?_, cnt (by omega), by simp⟩
     rw [take_snoc (by omega), digN_snoc, ← dig_step hlt (by omega), ← he]
     rfl
   ·
    refine WP.exit ?_
    refine hK7 _ ?_
    refine wr ?_
    refine um ?_
    refine ua ?_
    refine u_nil ?_
    refine WP.ret ?_
    refine ret_ok rfl ?_ (by omega) (fun _ _ => rfl)
    -- ret 3
    clear hK2 hK7 hK9
    have hn := stepI_neg hl1 hl3 hq
    have h1 := all_true (by omega) hin_i
    rw [hn, if_pos h1, List.take_of_length_le (by omega)]
  ·
   simp
  ·
   refine Le.al ?_
   simp only [List.forall_mem_cons]
   exact ⟨rfl, rfl, rfl, by simp⟩

end Go.Proofs.YtmielecljgfnaaaGreat.Abs

set_option linter.unusedVariables false
set_option linter.unusedSimpArgs false
set_option maxRecDepth 10000
namespace Go.Proofs.YtmielecljgfnaaaGreat.Abs
open Go
def idxL (s : Str) : List D := if 0 ≤ stepI s then [.int .i64 (stepI s), .bool true] else [.int .i64 0, .bool false]
theorem dec_dig {s : Str} {i : Nat} (h : i < s.length) (h2 : (Utf8.decode ⟨s.toArray⟩ i).1 ≤ 57) : Utf8.decode ⟨s.toArray⟩ i = ((s[i]'h).toNat, 1) := by
  have hs : i < (⟨s.toArray⟩ : ByteArray).size := by simpa [ByteArray.size] using h
  have hg : (⟨s.toArray⟩ : ByteArray)[i]'hs = s[i]'h := rfl
  by_cases ha : (s[i]'h).toNat < 128
  · have := decode_ascii ⟨s.toArray⟩ i hs (by rw [hg]; exact ha)
    rw [this, hg]
  · have := (decode_high ⟨s.toArray⟩ i hs (by rw [hg]; omega)).1
    omega
theorem dig_not {s : Str} {i : Nat} (h : i < s.length) (h2 : (Utf8.decode ⟨s.toArray⟩ i).1 < 48 ∨ 57 < (Utf8.decode ⟨s.toArray⟩ i).1) : isDig (s[i]'h) = false := by
  have hs : i < (⟨s.toArray⟩ : ByteArray).size := by simpa [ByteArray.size] using h
  have hg : (⟨s.toArray⟩ : ByteArray)[i]'hs = s[i]'h := rfl
  simp only [isDig, Bool.and_eq_false_iff, decide_eq_false_iff_not]
  by_cases ha : (s[i]'h).toNat < 128
  · have := decode_ascii ⟨s.toArray⟩ i hs (by rw [hg]; exact ha)
    rw [this, hg] at h2
    simp only at h2
    omega
  · omega
theorem wrap_i32 {m : Int} (h1 : -2147483648 ≤ m) (h2 : m ≤ 2147483647) : IntKind.i32.wrap m = m := by
  simp only [IntKind.wrap, IntKind.bits, IntKind.signed]
  simp
  omega
theorem dig_step2 {n c : Nat} (hn : n < 1000) (h1 : 48 ≤ c) (h2 : c ≤ 57) : SV.d (.int .i64 (IntKind.i64.wrap (IntKind.i64.wrap (10 * (n : Int)) + IntKind.i64.wrap (IntKind.i32.wrap ((c : Int) - 48))))) = SV.d (.int .i64 ((10 * n + (c - 48) : Nat) : Int)) := by
  rw [wrap_i32 (by omega) (by omega), wrap_i64 (m := 10 * (n : Int)) (by omega) (by omega), wrap_i64 (m := (c : Int) - 48) (by omega) (by omega), wrap_i64 (by omega) (by omega)]
  refine congrArg (fun m : Int => SV.d (.int .i64 m)) ?_
  omega
theorem idx_no {s : Str} (h : stepI s = -1) : idxL s = [.int .i64 0, .bool false] := by
  unfold idxL; rw [if_neg (by omega)]
theorem idx_at {s : Str} {n : Nat} (h : stepI s = (n : Int)) : idxL s = [.int .i64 (n : Int), .bool true] := by
  unfold idxL; rw [if_pos (by omega), h]
theorem stepI_out {s : Str} (h : s.length < 1 ∨ 3 < s.length ∨ (s[0]? = some 48 ∧ 1 < s.length)) : stepI s = -1 := by
  unfold stepI; rw [if_pos h]
theorem stepI_in {s : Str} (h1 : 1 ≤ s.length) (h3 : s.length ≤ 3) (h : ¬ (s[0]? = some 48 ∧ 1 < s.length)) : stepI s = if s.all isDig then (digN s 0 : Int) else -1 := by
  unfold stepI
  rw [if_neg]
  rintro (h' | h' | h')
  · omega
  · omega
  · exact h h'
theorem zero_head {s : Str} (h0 : 0 < s.length) : bAt s (0 : Int).toNat = 48 ↔ s[0]? = some 48 := by
  rw [Int.toNat_zero, bAt_eq h0, List.getElem?_eq_getElem h0, Option.some.injEq]
  exact toNat_eq (n := 48) (by omega)

theorem fn298 : FnOk Tryz.prog 298 43 [2, 3] (bodyOf Tryz.f298) := ⟨Tryz.f298, Tryz.func298, by kernel_rfl, by decide, by kernel_rfl, by kernel_rfl⟩
theorem s298 (s : Str) : PSpec Tryz.prog 298 [.d (.str s)] (.tup ((idxL s).map .d)) := by
 refine PSpec.of2 fn298 (by simp) fun o nk => ?_
 refine wr ?_
 refine ua ?_
 refine ua ?_
 refine u_nil ?_
 refine WP.seq fun K2 hK2 => ?_
 refine wr ?_
 refine um ?_
 refine u_step (o_len_str rfl th9 rfl ?_)
 refine ub ?_
 refine um ?_
 apply gF
 · rfl
 · intro hg
   exact pm
 apply gF
 · rfl
 · intro hg; try simp only [hg, ct]; try simp only [hg, ct, Bt]
   refine o_len_str rfl th9 rfl ⟨rfl, rfl, rfl⟩
 apply gF
 · rfl
 · intro hg; try simp only [hg, ct]; try simp only [hg, ct, Bt]
   exact pb
 refine uO ?_
 refine um ?_
 apply gF
 · rfl
 · intro hg
   exact pm
 apply gF
 · rfl
 · intro hg; try simp only [hg, ct]; try simp only [hg, ct, Bt]
   refine o_len_str rfl th9 rfl ⟨rfl, rfl, rfl⟩
 apply gF
 · rfl
 · intro hg; try simp only [hg, ct]; try simp only [hg, ct, Bt]
   exact pb
 apply gF
 · rfl
 · intro hg; try simp only [hg, ct]; try simp only [hg, ct, Bt]
   exact pm
 apply u_guard
 · exact GC.ct _ _
 · intro hg
   exact pm
 apply u_guard
 · exact GC.ct _ _
 · intro hg; try simp only [hg, ct]; try simp only [hg, ct, Bt]
   have hg2 := hg; try simp only [Q0, Q1, Q2, Q3, Q4, Q5, Q6, Q9, Qa, Qb, Qc, Qd] at hg2
   refine o_ix rfl rfl th9 rfl ?_ ?_ ⟨rfl, rfl, rfl⟩
   · decide
   · simp at hg2; simp; omega
 apply u_guard
 · exact GC.ct _ _
 · intro hg; try simp only [hg, ct]; try simp only [hg, ct, Bt]
   exact pb
 apply gF
 · rfl
 · intro hg; try simp only [hg, ct]; try simp only [hg, ct, Bt]
   exact pA
 refine uO ?_
 refine u_nil ?_
 refine wc (fun hc4 => ?_) (fun hc4 => ?_) <;> try simp only [Q0, Q1, Q2, Q3, Q4, Q5, Q6, Q7, Q8, ge_iff_le, gt_iff_lt] at hc4
 ·
  refine wr ?_
  refine ua ?_
  refine ua ?_
  refine u_nil ?_
  refine WP.ret ?_
  refine retT_ok ?_ (by omega) (fun _ _ => rfl)
  clear hK2
  have hq := hc4
  have hs : stepI s = -1 := by
    refine stepI_out ?_
    simp only [Bool.or_eq_true, Bool.and_eq_true, decide_eq_true_eq, beq_iff_eq] at hq
    rcases hq with (h | h) | ⟨h2, h⟩
    · exact .inl (by omega)
    · exact .inr (.inl (by omega))
    · exact .inr (.inr ⟨(zero_head (by omega)).1 h, by omega⟩)
  rw [idx_no hs]; rfl
 ·
  have hq := Bool.or_eq_false_iff.1 hc4
  have hq1 := Bool.or_eq_false_iff.1 hq.1
  have hl1 : 1 ≤ s.length := by have := hq1.1; simp at this; omega
  have hl3 : s.length ≤ 3 := by have := hq1.2; simp at this; omega
  refine WP.skip ?_
  refine hK2 _ ?_
  refine wr ?_
  refine ua ?_
  refine u_nil ?_
  refine WP.seq fun K7 hK7 => ?_
  refine wr ?_
  refine um ?_
  refine u_step (g_range rfl th9 rfl fun o9 hb9 hk9 => ?_)
  refine u_nil ?_
  refine WP.block ?_
  refine WP.loopL (ι := Nat × (Nat → Option AO)) (fun ⟨i, o2⟩ => ⟨al [(4, .d (.int .i64 (digN (s.take i) 0 : Nat))), (26, .raw nk)], o2, (nk + 1)⟩) (fun ⟨i, o2⟩ => i ≤ s.length ∧ o2 nk = some (.raw (itOb s i)) ∧ (∀ t, t < nk → o2 t = o t) ∧ (s.take i).all isDig = true) (fun ⟨i, o2⟩ => s.length - i) (fun ⟨i, o2⟩ hA => ?_) ⟨0, o9⟩ ?_ ?_
  ·
   obtain ⟨hle, hob, hfr, hin_i⟩ := hA
   refine wr ?_
   refine u_step (g_next rfl hob (fun hp11 o11 hb11 hk11 => ?_) (fun hp11 => ?_))
   ·
    refine ue ?_
    refine u_nil ?_
    refine WP.seq fun K12 hK12 => ?_
    refine WP.cond rfl (fun hc13 => ?_) (fun hc13 => by cases hc13)
    refine WP.skip ?_
    refine hK12 _ ?_
    refine WP.block ?_
    refine wr ?_
    refine ue ?_
    refine ua ?_
    refine u_nil ?_
    refine WP.seq fun K15 hK15 => ?_
    refine wr ?_
    refine um ?_
    refine ub ?_
    refine um ?_
    apply gF
    · rfl
    · intro hg
      exact pm
    apply gF
    · rfl
    · intro hg; try simp only [hg, ct]; try simp only [hg, ct, Bt]
      exact pb
    refine uO ?_
    refine u_nil ?_
    refine wc (fun hc17 => ?_) (fun hc17 => ?_) <;> try simp only [Q0, Q1, Q2, Q3, Q4, Q5, Q6, Q7, Q8, ge_iff_le, gt_iff_lt] at hc17
    ·
     refine wr ?_
     refine ua ?_
     refine ua ?_
     refine u_nil ?_
     refine WP.ret ?_
     refine retT_ok ?_ (by omega) (fun t ht => (hk11 t (by omega)).trans ((hfr t (by omega))))
     have hz : ¬ (s[0]? = some 48 ∧ 1 < s.length) := by
       rintro ⟨h, h2⟩
       have h3 := hq.2
       rw [(zero_head (by omega)).2 h] at h3
       simp at h3; omega
     have hb := hc17
     simp only [Bool.or_eq_true, decide_eq_true_eq] at hb
     have hd := dig_not (s := s) (i := i) (by omega) (by omega)
     have hs : stepI s = -1 := by rw [stepI_in hl1 hl3 hz, if_neg (by rw [all_false (p := isDig) (by omega) hd]; simp)]
     rw [idx_no hs]; rfl
    ·
     refine WP.skip ?_
     refine hK15 _ ?_
     refine WP.reg tabOk rfl ?_
     refine um ?_
     refine ub ?_
     refine um ?_
     refine ub ?_
     refine uc th21 th3 ?_
     refine ub ?_
     refine ua ?_
     refine u_nil ?_
     -- back
     have hb := Bool.or_eq_false_iff.1 hc17
     simp only [decide_eq_false_iff_not] at hb
     have hdd := dec_dig (s := s) (i := i) (by omega) (by omega)
     have hlt := digN_le hin_i (by simp; omega)
     have h9 := dig_step2 (n := digN (s.take i) 0) (c := (Utf8.decode ⟨s.toArray⟩ i).1) hlt (by omega) (by omega)
     have hd1 : s[i].toNat = (Utf8.decode ⟨s.toArray⟩ i).1 := by rw [hdd]
     refine ⟨⟨i + 1, o11⟩, ⟨by omega, ?_, (fun t ht => (hk11 t (by omega)).trans ((hfr t (by omega)))), ?_⟩, by simp only; omega, ?_⟩
     · have hft := hb11
       rw [hdd] at hft; exact hft
     · rw [all_snoc (by omega), hin_i]; simp only [isDig, Bool.true_and, Bool.and_eq_true, decide_eq_true_eq]; omega
     · refine Le.al ?_
       simp only [List.forall_mem_cons]
       refine ⟨?_, rfl, by simp⟩
       rw [take_snoc (by omega), digN_snoc, hd1, ← h9]
       rfl
   ·
    refine ue ?_
    refine u_nil ?_
    refine WP.seq fun K19 hK19 => ?_
    refine WP.cond rfl (fun hc20 => by cases hc20) (fun hc20 => ?_)
    refine WP.exit ?_
    refine hK7 _ ?_
    refine wr ?_
    refine um ?_
    refine ua ?_
    refine ua ?_
    refine u_nil ?_
    refine WP.ret ?_
    refine retT_ok ?_ (by omega) (fun t ht => (hfr t (by omega)))
    have hz : ¬ (s[0]? = some 48 ∧ 1 < s.length) := by
      rintro ⟨h, h2⟩
      have h3 := hq.2
      rw [(zero_head (by omega)).2 h] at h3
      simp at h3; omega
    have h1 := all_true (by omega) hin_i
    have hs : stepI s = (digN (s.take i) 0 : Int) := by rw [stepI_in hl1 hl3 hz, if_pos h1, List.take_of_length_le (by omega)]
    rw [idx_at hs]; rfl
  ·
   refine ⟨by simp, hb9, (fun t ht => (hk9 t (by omega))), by simp⟩
  ·
   refine Le.al ?_
   simp only [List.forall_mem_cons]
   exact ⟨rfl, rfl, by simp⟩

end Go.Proofs.YtmielecljgfnaaaGreat.Abs

set_option linter.unusedVariables false
set_option linter.unusedSimpArgs false
set_option maxRecDepth 10000
namespace Go.Proofs.YtmielecljgfnaaaGreat.Abs
open Go
theorem cmpI_zero {a b : Int} : cmpI a b = 0 ↔ a = b := by unfold cmpI; split <;> (try split) <;> omega
theorem orI_zero {x : Int} {r : List Int} : orI (x :: r) = 0 ↔ x = 0 ∧ orI r = 0 := by
  simp only [orI]; split <;> simp_all
theorem cmpB_zero : ∀ {s t : Str}, Go.Lib.compareBytes s t = 0 ↔ s = t
  | [], [] => by simp [Go.Lib.compareBytes]
  | [], _ :: _ => by simp [Go.Lib.compareBytes]
  | _ :: _, [] => by simp [Go.Lib.compareBytes]
  | a :: s, b :: t => by
    have ih := cmpB_zero (s := s) (t := t)
    simp only [Go.Lib.compareBytes, List.cons.injEq]
    by_cases h1 : a < b
    · have : a ≠ b := fun e => by subst e; exact UInt8.lt_irrefl _ h1
      simp [h1, this]
    · by_cases h2 : b < a
      · have : a ≠ b := fun e => by subst e; exact UInt8.lt_irrefl _ h2
        simp [h1, h2, this]
      · have : a = b := UInt8.le_antisymm (UInt8.not_lt.1 h2) (UInt8.not_lt.1 h1)
        simp [h1, h2, this, ih]
mutual
/-- The order of two values that may be. -/
def cmpV : Val → Val → Int
  | .mk k i t xs ns, w => orI [cmpI k w.kind, cmpI i w.int, Go.Lib.compareBytes t w.text, cmpsV xs (decide (k = 7)) w.items ns w.names]
def cmpsV : List Val → Bool → List Val → List Str → List Str → Int
  | [], _, ys, _, _ => cmpI 0 ys.length
  | x :: xs, doc, ys, ns, ms => match ys with
    | [] => 1
    | y :: ys => orI [if doc = true then Go.Lib.compareBytes (ns.headD []) (ms.headD []) else 0, cmpV x y, cmpsV xs doc ys ns.tail ms.tail]
end
mutual
theorem cmpV_refl : ∀ v, cmpV v v = 0
  | .mk k i t xs ns => by
    have h := cmpsV_refl xs (decide (k = 7)) ns
    rw [cmpV]
    simp only [Val.kind, Val.int, Val.text, Val.items, Val.names, orI_zero, h, cmpI_zero.2 rfl, cmpB_zero.2 rfl]
    simp [orI]
theorem cmpsV_refl : ∀ xs doc ns, cmpsV xs doc xs ns ns = 0
  | [], _, _ => by rw [cmpsV]; rfl
  | x :: xs, doc, ns => by
    have h1 := cmpV_refl x
    have h2 := cmpsV_refl xs doc ns.tail
    rw [cmpsV]
    simp only [orI_zero, h1, h2, cmpB_zero.2 rfl]
    simp [orI]
end
mutual
theorem cmpV_eq : ∀ (v w : Val), mayV v = true → mayV w = true → cmpV v w = 0 → v = w
  | .mk k i t xs ns, .mk k' i' t' ys ms, hv, hw, h => by
    rw [cmpV] at h
    simp only [Val.kind, Val.int, Val.text, Val.items, Val.names, orI_zero, cmpI_zero, cmpB_zero] at h
    obtain ⟨rfl, rfl, rfl, h4, _⟩ := h
    have hm1 : maysV xs = true := by rw [mayV] at hv; simp at hv; exact hv.1.1
    have hm2 : maysV ys = true := by rw [mayV] at hw; simp at hw; exact hw.1.1
    obtain ⟨rfl, h6⟩ := cmpsV_eq xs ys hm1 hm2 _ _ _ h4
    have hn : ns = ms := by
      by_cases hk : k = 7
      · subst hk
        exact h6 (by simp) (may7 hv) (may7 hw)
      · rw [mayV] at hv hw
        simp only [Bool.and_eq_true, kindOk] at hv hw
        have h1 := hv.2
        have h2 := hw.2
        have : ns.length = 0 ∧ ms.length = 0 := by
          constructor
          · grind
          · grind
        rw [List.eq_nil_of_length_eq_zero this.1, List.eq_nil_of_length_eq_zero this.2]
    rw [hn]
theorem cmpsV_eq : ∀ (xs ys : List Val), maysV xs = true → maysV ys = true → ∀ (doc : Bool) (ns ms : List Str), cmpsV xs doc ys ns ms = 0 → xs = ys ∧ (doc = true → ns.length = xs.length → ms.length = ys.length → ns = ms)
  | [], ys, _, _, doc, ns, ms, h => by
    rw [cmpsV, cmpI_zero] at h
    have : ys = [] := List.eq_nil_of_length_eq_zero (by omega)
    subst this
    exact ⟨rfl, fun _ h1 h2 => by rw [List.eq_nil_of_length_eq_zero h1, List.eq_nil_of_length_eq_zero h2]⟩
  | x :: xs, [], _, _, doc, ns, ms, h => by rw [cmpsV] at h; cases h
  | x :: xs, y :: ys, hx, hy, doc, ns, ms, h => by
    rw [cmpsV] at h
    simp only [orI_zero] at h
    obtain ⟨h1, h2, h3, _⟩ := h
    simp only [maysV, Bool.and_eq_true] at hx hy
    have e1 := cmpV_eq x y hx.1 hy.1 h2
    obtain ⟨e2, e3⟩ := cmpsV_eq xs ys hx.2 hy.2 doc ns.tail ms.tail h3
    refine ⟨by rw [e1, e2], fun hd l1 l2 => ?_⟩
    rw [if_pos hd, cmpB_zero] at h1
    cases ns with
    | nil => simp at l1
    | cons n ns =>
      cases ms with
      | nil => simp at l2
      | cons m ms =>
        simp only [List.headD_cons] at h1
        have e4 : ns = ms := e3 hd (by simpa using l1) (by simpa using l2)
        rw [h1, e4]
end
/-- The order of any two values. -/
def compV (v w : Val) : Int := if mayV v = true then (if mayV w = true then cmpV v w else 1) else if mayV w = true then -1 else 0
theorem comp_same {v w : Val} (hv : mayV v = true) (hw : mayV w = true) : decide (compV v w = 0) = sameV v w := by
  unfold compV
  rw [if_pos hv, if_pos hw, Bool.eq_iff_iff]
  simp only [decide_eq_true_eq, same_eq]
  exact ⟨fun h => cmpV_eq v w hv hw h, fun h => by rw [h]; exact cmpV_refl w⟩
theorem orI_ne {a b c d : Int} (h : orI [a, b, c] ≠ 0) : orI [a, b, c, d] = orI [a, b, c] := by
  simp only [orI] at *
  split <;> (try split) <;> (try split) <;> simp_all
theorem orI_eq {a b c d : Int} (h : orI [a, b, c] = 0) : orI [a, b, c, d] = d := by
  simp only [orI_zero] at h
  obtain ⟨rfl, rfl, rfl, _⟩ := h
  simp [orI]
  exact fun h => h.symm
theorem cmps_step {xs ys : List Val} {ns ms : List Str} {doc : Bool} {i : Nat} (hx : i < xs.length) (hy : i < ys.length) :
    cmpsV (xs.drop i) doc (ys.drop i) (ns.drop i) (ms.drop i) = orI [if doc = true then Go.Lib.compareBytes (ns.getD i []) (ms.getD i []) else 0, cmpV (xs[i]'hx) (ys[i]'hy), cmpsV (xs.drop (i + 1)) doc (ys.drop (i + 1)) (ns.drop (i + 1)) (ms.drop (i + 1))] := by
  rw [List.drop_eq_getElem_cons hx, List.drop_eq_getElem_cons hy, cmpsV]
  simp only [List.headD_eq_head?_getD, List.head?_drop, List.getD_eq_getElem?_getD, List.tail_drop]
theorem cmps_end {xs ys : List Val} {ns ms : List Str} {doc : Bool} {i : Nat} (h : ¬ (i < xs.length ∧ i < ys.length)) (h1 : i ≤ xs.length) (h2 : i ≤ ys.length) :
    cmpsV (xs.drop i) doc (ys.drop i) (ns.drop i) (ms.drop i) = cmpI xs.length ys.length := by
  by_cases hx : i < xs.length
  · have hy : ys.length = i := by omega
    have e : ys.drop i = [] := List.drop_eq_nil_of_le (by omega)
    rw [List.drop_eq_getElem_cons hx, e, cmpsV]
    unfold cmpI
    rw [if_neg (by omega), if_pos (by omega)]
  · have e : xs.drop i = [] := List.drop_eq_nil_of_le (by omega)
    rw [e, cmpsV, List.length_drop]
    unfold cmpI
    split <;> split <;> (try split) <;> omega
theorem may7n {k i : Int} {t : Str} {xs : List Val} {ns : List Str} (h : mayV (.mk k i t xs ns) = true) (hk : k = 7) : ns.length = xs.length := by subst hk; exact may7 h

theorem fn272 : FnOk Tryz.prog 272 78 [4] (bodyOf Tryz.f272) := ⟨Tryz.f272, Tryz.func272, by kernel_rfl, by decide, by kernel_rfl, by kernel_rfl⟩
theorem s272A (m : Nat) : ∀ (v w : Val), SizeOf.sizeOf v < m → mayV v = true → mayV w = true → PSpec Tryz.prog 272 [.d (encV v), .d (encV w)] (.d (.int .i64 (cmpV v w))) := by
 induction m with
 | zero => intros; omega
 | succ m ih =>
  rintro ⟨kd, it, tx, xs, ns⟩ ⟨kd2, it2, tx2, ys, ms⟩ hv hmv hmw
  refine PSpec.bd fun hbd => ?_
  have hx : xs.length ≤ 9223372036854775807 := by simpa [encVs_length] using hbd.1.2.2.2.1.1
  have hy : ys.length ≤ 9223372036854775807 := by simpa [encVs_length] using hbd.2.1.2.2.2.1.1
  refine PSpec.of fn272 (by simp) fun o nk => ?_
  refine wr ?_
  refine u_step (g_box rfl fun o2 hb2 hk2 => ?_)
  refine u_step (g_box rfl fun o3 hb3 hk3 => ?_)
  have hb2_3 := (hk3 _ (by omega)).trans hb2
  refine ua ?_
  refine u_nil ?_
  refine WP.seq fun K4 hK4 => ?_
  refine wd ?_
  refine df th69 th3 hb2_3 ?_
  refine dl th3 hb2_3 ?_
  refine df th69 th3 hb3 ?_
  refine dl th3 hb3 ?_
  refine d_step (o_pcall (s292 _ _) rfl ⟨rfl, rfl, rfl⟩) ?_
  refine df th69 th3 hb2_3 ?_
  refine dl th3 hb2_3 ?_
  refine df th69 th3 hb3 ?_
  refine dl th3 hb3 ?_
  refine d_step (o_pcall (s292 _ _) rfl ⟨rfl, rfl, rfl⟩) ?_
  refine df th69 th9 hb2_3 ?_
  refine dl th9 hb2_3 ?_
  refine df th69 th9 hb3 ?_
  refine dl th9 hb3 ?_
  refine d_step (o_pcall (s293 _ _) rfl ⟨rfl, rfl, rfl⟩) ?_
  refine d_step (o_bs rfl th112 rfl th3 rfl rfl (by decide) rfl (by decide) (by decide) ⟨rfl, rfl, rfl⟩) ?_
  refine d_step (o_pcall (s291 [cmpI kd kd2, cmpI it it2, Go.Lib.compareBytes tx tx2]) rfl ⟨rfl, rfl, rfl⟩) ?_
  refine da ?_
  refine d_nil ?_
  refine wr ?_
  refine um ?_
  refine ub ?_
  refine u_nil ?_
  refine wc (fun hc7 => ?_) (fun hc7 => ?_) <;> try simp only [Q0, Q1, Q2, Q3, Q4, Q5, Q6, Q7, Q8, ge_iff_le, gt_iff_lt] at hc7
  ·
   refine wr ?_
   refine um ?_
   refine ua ?_
   refine u_nil ?_
   refine WP.ret ?_
   refine ret_ok rfl ?_ (by omega) (fun t ht => (hk3 t (by omega)).trans ((hk2 t (by omega))))
   -- ret 1
   clear hK4
   refine congrArg (D.int .i64) ?_
   rw [cmpV]
   exact (orI_ne (by simpa using hc7)).symm
  ·
   have hq0 : orI [cmpI kd kd2, cmpI it it2, Go.Lib.compareBytes tx tx2] = 0 := by simpa using hc7
   have hq := hq0
   simp only [orI_zero, cmpI_zero, cmpB_zero] at hq
   obtain ⟨rfl, rfl, rfl, _⟩ := hq
   have hcm : cmpV (.mk kd it tx xs ns) (.mk kd it tx ys ms) = cmpsV xs (decide (kd = 7)) ys ns ms := by rw [cmpV]; exact orI_eq hq0
   refine WP.skip ?_
   refine hK4 _ ?_
   refine WP.seq fun K9 hK9 => ?_
   refine wr ?_
   refine uf th69 th67 hb2_3 ?_
   refine ul th67 hb2_3 ?_
   refine un th67 ?_
   refine uf th69 th67 hb3 ?_
   refine ul th67 hb3 ?_
   refine un th67 ?_
   refine u_step (o_mm (by decide) rfl ?_)
   refine um ?_
   refine u_nil ?_
   refine WP.block ?_
   refine WP.loopL (ι := Nat) (fun i => ⟨al [(2, .loc nk 0), (3, .loc (nk + 1) 0), (35, .d (.int .i64 (if ((encVs ys).length : Int) < ((encVs xs).length : Int) then ((encVs ys).length : Int) else ((encVs xs).length : Int)))), (36, .d (.int .i64 i))], o3, ((nk + 1) + 1)⟩) (fun i => i ≤ xs.length ∧ i ≤ ys.length ∧ cmpV (.mk kd it tx xs ns) (.mk kd it tx ys ms) = cmpsV (xs.drop i) (decide (kd = 7)) (ys.drop i) (ns.drop i) (ms.drop i)) (fun i => xs.length - i) (fun i hA => ?_) 0 ?_ ?_
   ·
    obtain ⟨hi1, hi2, hin⟩ := hA
    refine wr ?_
    refine ub ?_
    refine u_nil ?_
    refine WP.seq fun K12 hK12 => ?_
    refine wc (fun hc13 => ?_) (fun hc13 => ?_) <;> try simp only [Q0, Q1, Q2, Q3, Q4, Q5, Q6, Q7, Q8, ge_iff_le, gt_iff_lt] at hc13
    ·
     have hlt : i < xs.length ∧ i < ys.length := by have := hc13; (try simp only [encVs_length] at this); constructor <;> (split at this <;> omega)
     have hst := cmps_step (xs := xs) (ys := ys) (ns := ns) (ms := ms) (doc := decide (kd = 7)) hlt.1 hlt.2
     refine WP.skip ?_
     refine hK12 _ ?_
     refine WP.seq fun K14 hK14 => ?_
     refine WP.block ?_
     refine wr ?_
     refine um ?_
     refine ua ?_
     refine u_nil ?_
     refine WP.seq fun K16 hK16 => ?_
     refine wr ?_
     refine uf th69 th3 hb2_3 ?_
     refine ul th3 hb2_3 ?_
     refine ub ?_
     refine u_nil ?_
     refine wc (fun hc18 => ?_) (fun hc18 => ?_) <;> try simp only [Q0, Q1, Q2, Q3, Q4, Q5, Q6, Q7, Q8, ge_iff_le, gt_iff_lt] at hc18
     ·
      have hk7 : kd = 7 := by simpa using hc18
      have hln : ns.length = xs.length := may7n hmv hk7
      have hlm : ms.length = ys.length := may7n hmw hk7
      have hdc : decide (kd = 7) = true := by simp [hk7]
      have e1 : ns.getD i [] = ns[i] := by simp [show i < ns.length by omega]
      have e2 : ms.getD i [] = ms[i] := by simp [show i < ms.length by omega]
      refine wd ?_
      refine df th69 th60 hb2_3 ?_
      refine dl th60 hb2_3 ?_
      refine dm ?_
      first | refine d_step (o_ia_map rfl rfl th60 rfl th9 rfl (by omega) ⟨rfl, rfl, rfl⟩) ?_ | refine d_step (o_ia_vs rfl rfl th60 rfl th9 rfl (by omega) ⟨rfl, rfl, rfl⟩) ?_
      refine dL th9 ?_
      refine df th69 th60 hb3 ?_
      refine dl th60 hb3 ?_
      refine dm ?_
      first | refine d_step (o_ia_map rfl rfl th60 rfl th9 rfl (by omega) ⟨rfl, rfl, rfl⟩) ?_ | refine d_step (o_ia_vs rfl rfl th60 rfl th9 rfl (by omega) ⟨rfl, rfl, rfl⟩) ?_
      refine dL th9 ?_
      refine d_step (o_pcall (s293 _ _) rfl ⟨rfl, rfl, rfl⟩) ?_
      refine da ?_
      refine d_nil ?_
      refine wr ?_
      refine um ?_
      refine ub ?_
      refine u_nil ?_
      refine wc (fun hc21 => ?_) (fun hc21 => ?_) <;> try simp only [Q0, Q1, Q2, Q3, Q4, Q5, Q6, Q7, Q8, ge_iff_le, gt_iff_lt] at hc21
      ·
       refine wr ?_
       refine um ?_
       refine ua ?_
       refine u_nil ?_
       refine WP.ret ?_
       refine ret_ok rfl ?_ (by omega) (fun t ht => (hk3 t (by omega)).trans ((hk2 t (by omega))))
       -- ret 2
       clear hK4 hK9 hK12 hK14 hK16
       refine congrArg (D.int .i64) ?_
       rw [hin, hst, if_pos hdc, e1, e2]
       have hl := hc21
       simp only [orI]
       rw [if_neg (by simpa using hl)]
      ·
       have hX : (if decide (kd = 7) = true then Go.Lib.compareBytes (ns.getD i []) (ms.getD i []) else 0) = 0 := by rw [if_pos hdc, e1, e2]; simpa using hc21
       refine WP.skip ?_
       refine hK16 _ ?_
       refine wd ?_
       refine df th69 th67 hb2_3 ?_
       refine dl th67 hb2_3 ?_
       refine dm ?_
       first | refine d_step (o_ia_map rfl rfl th67 rfl th69 rfl (by omega) ⟨rfl, rfl, rfl⟩) ?_ | refine d_step (o_ia_vs rfl rfl th67 rfl th69 rfl (by omega) ⟨rfl, rfl, rfl⟩) ?_
       refine dL th69 ?_
       refine df th69 th67 hb3 ?_
       refine dl th67 hb3 ?_
       refine dm ?_
       first | refine d_step (o_ia_map rfl rfl th67 rfl th69 rfl (by omega) ⟨rfl, rfl, rfl⟩) ?_ | refine d_step (o_ia_vs rfl rfl th67 rfl th69 rfl (by omega) ⟨rfl, rfl, rfl⟩) ?_
       refine dL th69 ?_
       refine d_step (o_pcall (ih _ _ (by exact items_lt' (by omega) hv) (by exact may_items hmv (by omega)) (by exact may_items hmw (by omega))) rfl ⟨rfl, rfl, rfl⟩) ?_
       refine da ?_
       refine d_nil ?_
       refine wr ?_
       refine um ?_
       refine ub ?_
       refine u_nil ?_
       refine wc (fun hc25 => ?_) (fun hc25 => ?_) <;> try simp only [Q0, Q1, Q2, Q3, Q4, Q5, Q6, Q7, Q8, ge_iff_le, gt_iff_lt] at hc25
       ·
        refine wr ?_
        refine um ?_
        refine ua ?_
        refine u_nil ?_
        refine WP.ret ?_
        refine ret_ok rfl ?_ (by omega) (fun t ht => (hk3 t (by omega)).trans ((hk2 t (by omega))))
        -- ret 3
        clear hK4 hK9 hK12 hK14 hK16
        refine congrArg (D.int .i64) ?_
        have hl := hc25
        rw [hin, hst, hX]
        simp only [orI, if_true]
        rw [if_neg (by simpa using hl)]
       ·
        refine WP.skip ?_
        refine hK14 _ ?_
        refine WP.reg tabOk rfl ?_
        refine ub ?_
        refine um ?_
        refine u_nil ?_
        -- back
        have hl := hc25
        refine ⟨i + 1, ⟨by omega, by omega, ?_⟩, by omega, ?_⟩
        · rw [hin, hst, hX, show cmpV xs[i] ys[i] = 0 from by simpa using hl]
          simp only [orI, if_true]
          split
          · rename_i h0; exact h0.symm
          · rfl
        · refine Le.al ?_
          simp only [List.forall_mem_cons]
          exact ⟨rfl, rfl, rfl, cnt (by omega), by simp⟩
     ·
      have hdc : decide (kd = 7) = false := by simpa using hc18
      have hX : (if decide (kd = 7) = true then Go.Lib.compareBytes (ns.getD i []) (ms.getD i []) else 0) = 0 := by rw [hdc]; rfl
      refine WP.skip ?_
      refine hK16 _ ?_
      refine wd ?_
      refine df th69 th67 hb2_3 ?_
      refine dl th67 hb2_3 ?_
      refine dm ?_
      first | refine d_step (o_ia_map rfl rfl th67 rfl th69 rfl (by omega) ⟨rfl, rfl, rfl⟩) ?_ | refine d_step (o_ia_vs rfl rfl th67 rfl th69 rfl (by omega) ⟨rfl, rfl, rfl⟩) ?_
      refine dL th69 ?_
      refine df th69 th67 hb3 ?_
      refine dl th67 hb3 ?_
      refine dm ?_
      first | refine d_step (o_ia_map rfl rfl th67 rfl th69 rfl (by omega) ⟨rfl, rfl, rfl⟩) ?_ | refine d_step (o_ia_vs rfl rfl th67 rfl th69 rfl (by omega) ⟨rfl, rfl, rfl⟩) ?_
      refine dL th69 ?_
      refine d_step (o_pcall (ih _ _ (by exact items_lt' (by omega) hv) (by exact may_items hmv (by omega)) (by exact may_items hmw (by omega))) rfl ⟨rfl, rfl, rfl⟩) ?_
      refine da ?_
      refine d_nil ?_
      refine wr ?_
      refine um ?_
      refine ub ?_
      refine u_nil ?_
      refine wc (fun hc29 => ?_) (fun hc29 => ?_) <;> try simp only [Q0, Q1, Q2, Q3, Q4, Q5, Q6, Q7, Q8, ge_iff_le, gt_iff_lt] at hc29
      ·
       refine wr ?_
       refine um ?_
       refine ua ?_
       refine u_nil ?_
       refine WP.ret ?_
       refine ret_ok rfl ?_ (by omega) (fun t ht => (hk3 t (by omega)).trans ((hk2 t (by omega))))
       -- ret 4
       clear hK4 hK9 hK12 hK14 hK16
       refine congrArg (D.int .i64) ?_
       have hl := hc29
       rw [hin, hst, hX]
       simp only [orI, if_true]
       rw [if_neg (by simpa using hl)]
      ·
       refine WP.skip ?_
       refine hK14 _ ?_
       refine WP.reg tabOk rfl ?_
       refine ub ?_
       refine um ?_
       refine u_nil ?_
       -- back
       have hl := hc29
       refine ⟨i + 1, ⟨by omega, by omega, ?_⟩, by omega, ?_⟩
       · rw [hin, hst, hX, show cmpV xs[i] ys[i] = 0 from by simpa using hl]
         simp only [orI, if_true]
         split
         · rename_i h0; exact h0.symm
         · rfl
       · refine Le.al ?_
         simp only [List.forall_mem_cons]
         exact ⟨rfl, rfl, rfl, cnt (by omega), by simp⟩
    ·
     have hend := cmps_end (xs := xs) (ys := ys) (ns := ns) (ms := ms) (doc := decide (kd = 7)) (i := i) (by have := hc13; (try simp only [encVs_length] at this); rintro ⟨h1, h2⟩; split at this <;> omega) (by omega) (by omega)
     refine WP.exit ?_
     refine hK9 _ ?_
     refine wr ?_
     refine uf th69 th67 hb2_3 ?_
     refine ul th67 hb2_3 ?_
     refine un th67 ?_
     refine uf th69 th67 hb3 ?_
     refine ul th67 hb3 ?_
     refine un th67 ?_
     refine u_step (o_pcall (s292 _ _) rfl ?_)
     refine ua ?_
     refine u_nil ?_
     refine WP.ret ?_
     refine ret_ok rfl ?_ (by omega) (fun t ht => (hk3 t (by omega)).trans ((hk2 t (by omega))))
     -- ret 5
     clear hK4 hK9 hK12
     refine congrArg (D.int .i64) ?_
     rw [hin, hend]
     simp only [encVs_length]
   ·
    exact ⟨by omega, by omega, by simpa using hcm⟩
   ·
    refine Le.al ?_
    simp only [List.forall_mem_cons]
    exact ⟨rfl, rfl, rfl, rfl, by simp⟩
theorem s272 (v w : Val) (hmv : mayV v = true) (hmw : mayV w = true) : PSpec Tryz.prog 272 [.d (encV v), .d (encV w)] (.d (.int .i64 (cmpV v w))) := s272A _ v w (Nat.lt_succ_self _) hmv hmw

theorem fn239 : FnOk Tryz.prog 239 23 [4] (bodyOf Tryz.f239) := ⟨Tryz.f239, Tryz.func239, by kernel_rfl, by decide, by kernel_rfl, by kernel_rfl⟩
theorem s239 (v w : Val) : PSpec Tryz.prog 239 [.d (encV v), .d (encV w)] (.d (.int .i64 (compV v w))) := by
 obtain ⟨kd, it, tx, xs, ns⟩ := v
 obtain ⟨kd2, it2, tx2, ys, ms⟩ := w
 refine PSpec.of fn239 (by simp) fun o nk => ?_
 refine wr ?_
 refine u_step (g_box rfl fun o2 hb2 hk2 => ?_)
 refine u_step (g_box rfl fun o3 hb3 hk3 => ?_)
 have hb2_3 := (hk3 _ (by omega)).trans hb2
 refine ua ?_
 refine u_nil ?_
 refine WP.seq fun K4 hK4 => ?_
 refine wd ?_
 refine dg th69 hb2_3 ?_
 refine d_step (o_pcall (s191 (.mk kd it tx xs ns)) rfl ⟨rfl, rfl, rfl⟩) ?_
 refine dg th69 hb3 ?_
 refine d_step (o_pcall (s191 (.mk kd2 it2 tx2 ys ms)) rfl ⟨rfl, rfl, rfl⟩) ?_
 refine da ?_
 refine da ?_
 refine d_nil ?_
 refine WP.block ?_
 refine wr ?_
 refine um ?_
 refine um ?_
 apply gT
 · rfl
 · intro hg
   exact pm
 refine uA ?_
 refine ua ?_
 refine u_nil ?_
 refine wc (fun hc7 => ?_) (fun hc7 => ?_) <;> try simp only [Q0, Q1, Q2, Q3, Q4, Q5, Q6, Q7, Q8, ge_iff_le, gt_iff_lt] at hc7
 ·
  refine wr ?_
  refine ug th69 hb2_3 ?_
  refine ug th69 hb3 ?_
  refine u_step (o_pcall (s272 (.mk kd it tx xs ns) (.mk kd2 it2 tx2 ys ms) (by have := hc7; simp at this; exact this.1) (by have := hc7; simp at this; exact this.2)) rfl ?_)
  refine ua ?_
  refine u_nil ?_
  refine WP.ret ?_
  refine ret_ok rfl ?_ (by omega) (fun t ht => (hk3 t (by omega)).trans ((hk2 t (by omega))))
  -- ret 1
  clear hK4
  refine congrArg (D.int .i64) ?_
  simp only [compV]
  grind
 ·
  refine wr ?_
  refine um ?_
  refine ua ?_
  refine u_nil ?_
  refine wc (fun hc10 => ?_) (fun hc10 => ?_) <;> try simp only [Q0, Q1, Q2, Q3, Q4, Q5, Q6, Q7, Q8, ge_iff_le, gt_iff_lt] at hc10
  ·
   refine wr ?_
   refine ua ?_
   refine u_nil ?_
   refine WP.ret ?_
   refine ret_ok rfl ?_ (by omega) (fun t ht => (hk3 t (by omega)).trans ((hk2 t (by omega))))
   -- ret 2
   clear hK4
   refine congrArg (D.int .i64) ?_
   simp only [compV]
   grind
  ·
   refine wr ?_
   refine um ?_
   refine ua ?_
   refine u_nil ?_
   refine wc (fun hc13 => ?_) (fun hc13 => ?_) <;> try simp only [Q0, Q1, Q2, Q3, Q4, Q5, Q6, Q7, Q8, ge_iff_le, gt_iff_lt] at hc13
   ·
    refine wr ?_
    refine ua ?_
    refine u_nil ?_
    refine WP.ret ?_
    refine ret_ok rfl ?_ (by omega) (fun t ht => (hk3 t (by omega)).trans ((hk2 t (by omega))))
    -- ret 3
    clear hK4
    refine congrArg (D.int .i64) ?_
    simp only [compV]
    grind
   ·
    refine WP.skip ?_
    refine hK4 _ ?_
    refine wr ?_
    refine ua ?_
    refine u_nil ?_
    refine WP.ret ?_
    refine ret_ok rfl ?_ (by omega) (fun t ht => (hk3 t (by omega)).trans ((hk2 t (by omega))))
    -- ret 4
    clear hK4
    refine congrArg (D.int .i64) ?_
    simp only [compV]
    grind

theorem fn192 : FnOk Tryz.prog 192 9 [4] (bodyOf Tryz.f192) := ⟨Tryz.f192, Tryz.func192, by kernel_rfl, by decide, by kernel_rfl, by kernel_rfl⟩
theorem s192 (v w : Val) : PSpec Tryz.prog 192 [.d (encV v), .d (encV w)] (.d (.bool (decide (compV v w = 0)))) := by
 obtain ⟨kd, it, tx, xs, ns⟩ := v
 obtain ⟨kd2, it2, tx2, ys, ms⟩ := w
 refine PSpec.of fn192 (by simp) fun o nk => ?_
 refine wr ?_
 refine u_step (g_box rfl fun o2 hb2 hk2 => ?_)
 refine u_step (g_box rfl fun o3 hb3 hk3 => ?_)
 have hb2_3 := (hk3 _ (by omega)).trans hb2
 refine ua ?_
 refine u_nil ?_
 refine wr ?_
 refine ug th69 hb2_3 ?_
 refine ug th69 hb3 ?_
 refine u_step (o_pcall (s239 (.mk kd it tx xs ns) (.mk kd2 it2 tx2 ys ms)) rfl ?_)
 refine ub ?_
 refine ua ?_
 refine u_nil ?_
 refine WP.ret ?_
 refine ret_ok rfl ?_ (by omega) (fun t ht => (hk3 t (by omega)).trans ((hk2 t (by omega))))
 -- ret 1
 refine congrArg D.bool ?_
 rw [Bool.eq_iff_iff]
 simp

end Go.Proofs.YtmielecljgfnaaaGreat.Abs

set_option linter.unusedVariables false
set_option linter.unusedSimpArgs false
set_option maxRecDepth 10000
namespace Go.Proofs.YtmielecljgfnaaaGreat.Abs
open Go
theorem encVs_snoc {xs : List Val} {i : Nat} (h : i < xs.length) : encVs (xs.take (i + 1)) = encVs (xs.take i) ++ [encV (xs[i]'h)] := by
  rw [List.take_succ_eq_append_getElem h, encVs_map, encVs_map, List.map_append]; rfl

theorem fn146 : FnOk Tryz.prog 146 8 [2] (bodyOf Tryz.f146) := ⟨Tryz.f146, Tryz.func146, by kernel_rfl, by decide, by kernel_rfl, by kernel_rfl⟩
theorem s146 (ns : List Str) (hsz : ns.length ≤ 1099511627776) : DSpec Tryz.prog 146 [.d (.sl 1 (ns.map .str))] 9 1 (ns.map .str) := by
 refine DSpec.of fn146 (by simp) fun o nk => ?_
 refine wr ?_
 refine ua ?_
 refine u_nil ?_
 refine WP.seq fun K2 hK2 => ?_
 refine wr ?_
 refine um ?_
 refine u_step (o_eqnil rfl rfl th60 rfl fun nb4 hnb4 => ?_)
 refine u_nil ?_
 refine wc (fun hc5 => ?_) (fun hc5 => ?_) <;> try simp only [Q0, Q1, Q2, Q3, Q4, Q5, Q6, Q7, Q8, ge_iff_le, gt_iff_lt] at hc5
 ·
  refine wr ?_
  refine ua ?_
  refine u_nil ?_
  refine WP.ret ?_
  refine dnil_ok rfl ?_ (by omega) (fun _ _ => rfl)
  exact hnb4 hc5
 ·
  refine WP.skip ?_
  refine hK2 _ ?_
  refine wr ?_
  refine u_step (g_bs0 th60 rfl th9 rfl rfl (by decide) fun o8 hb8 hk8 => ?_)
  refine um ?_
  refine u_step (g_ap rfl rfl th60 rfl th9 rfl rfl (by decide) rfl hb8 (by simp only [List.length_nil, List.length_map]; omega) (by simp only [List.length_nil, List.length_map]; omega) fun o9 hb9 hk9 => ?_)
  refine u_step (o_assignV (v := .row _) rfl ?_)
  refine u_nil ?_
  refine WP.ret ?_
  refine drow_ok rfl (by omega) (by omega) ?_ (fun t ht => (hk9 t (by omega) (by omega)).trans ((hk8 t (by omega))))
  simpa using hb9

theorem fn103 : FnOkC Tryz.prog 103 28 [.cell 2 69] (bodyOf Tryz.f103) := ⟨Tryz.f103, Tryz.func103, by kernel_rfl, by decide, by kernel_rfl, by kernel_rfl⟩
theorem s103A (m : Nat) : ∀ v : Val, SizeOf.sizeOf v < m → szV v ≤ 1099511627776 → PSpec Tryz.prog 103 [.d (encV v)] (.d (encV v)) := by
 induction m with
 | zero => intros; omega
 | succ m ih =>
  rintro ⟨kd, it, tx, xs, ns⟩ hv hsz
  have hsz2 : 1 + tx.length + szVs xs + szN ns ≤ 1099511627776 := hsz
  have hxl := szVs_len xs
  have hnl := szN_len ns
  have hln := encVs_length xs
  refine PSpec.ofC1 tabOk fn103 (by simp) fun o nk => ?_
  refine wr ?_
  refine u_step (g_box rfl fun o2 hb2 hk2 => ?_)
  refine u_step (g_alloc th69 rfl fun o3 hb3 hk3 => ?_)
  have hb2_3 := (hk3 _ (by omega)).trans hb2
  refine u_nil ?_
  refine wr ?_
  refine uf th69 th60 hb2_3 ?_
  refine ul th60 hb2_3 ?_
  refine u_step (o_pcall ((s146 ns (by omega)).frz) rfl ?_)
  refine uf th69 th60 hb2_3 ?_
  refine u_step0 (g_st rfl rfl rfl th60 rfl hb2_3 (by simp) fun o5 hb5 hk5 => ?_)
  have hb3_5 := (hk5 _ (by omega)).trans hb3
  refine u_nil ?_
  refine wr ?_
  refine uf th69 th67 hb5 ?_
  refine ul th67 hb5 ?_
  refine ua ?_
  refine u_nil ?_
  refine wr ?_
  refine uf th69 th67 hb5 ?_
  refine u_step0 (g_st rfl rfl rfl th67 rfl hb5 (by simp) fun o8 hb8 hk8 => ?_)
  have hb3_8 := (hk8 _ (by omega)).trans hb3_5
  refine u_nil ?_
  refine WP.seq fun K9 hK9 => ?_
  refine wr ?_
  refine um ?_
  refine un th67 ?_
  refine um ?_
  refine u_nil ?_
  refine WP.block ?_
  refine WP.loopL (ι := Nat × SV × Option Nat × (Nat → Option AO) × Nat) (fun ⟨i, c, q, o2, nk2⟩ => ⟨al [(1, .loc nk 0), (2, .loc (nk + 1) 0), (13, .d (.sl 5 (encVs xs))), (14, .d (.int .i64 (encVs xs).length)), (15, .d (.int .i64 i))], o2, nk2⟩) (fun ⟨i, c, q, o2, nk2⟩ => i ≤ xs.length ∧ nk + 2 ≤ nk2 ∧ o2 nk = some (.box [.d (.int .i64 kd), .d (.int .i64 it), .d (.str tx), c, .d (.sl 1 (ns.map .str))]) ∧ o2 (nk + 1) = some (.box [.d (.int .i64 0), .d (.int .i64 0), .d (.str []), .d .nil, .d .nil]) ∧ dstOf o2 69 5 c = some (q, encVs (xs.take i)) ∧ (∀ t, q = some t → nk + 2 ≤ t ∧ t < nk2) ∧ ∀ t, t < nk → o2 t = o t) (fun ⟨i, c, q, o2, nk2⟩ => xs.length - i) (fun ⟨i, c, q, o2, nk2⟩ hA => ?_) ⟨0, .d .nil, none, o8, ((nk + 1) + 1)⟩ ?_ ?_
  ·
   obtain ⟨hle, hnk, hob, hzb, hd, hq, hfr⟩ := hA
   refine wr ?_
   refine ub ?_
   refine u_nil ?_
   refine WP.seq fun K12 hK12 => ?_
   refine wc (fun hc13 => ?_) (fun hc13 => ?_) <;> try simp only [Q0, Q1, Q2, Q3, Q4, Q5, Q6, Q7, Q8, ge_iff_le, gt_iff_lt] at hc13
   ·
    refine WP.skip ?_
    refine hK12 _ ?_
    refine WP.seq fun K14 hK14 => ?_
    refine WP.block ?_
    refine wr ?_
    first | refine u_step (o_ia_map rfl rfl th67 rfl th69 rfl (by omega) ?_) | refine u_step (o_ia_vs rfl rfl th67 rfl th69 rfl (by omega) ?_)
    refine uL th69 ?_
    refine u_step (g_alloc th69 rfl fun o16 hb16 hk16 => ?_)
    have hob_16 := (hk16 _ (by omega)).trans hob
    have hzb_16 := (hk16 _ (by omega)).trans hzb
    have hd_16 := dst_keep hd fun t e => hk16 t (by have := hq t e; omega)
    refine u_step0 (g_sta rfl (congrArg SV.d (encV_eq _)) th69 rfl hb16 (by simp [valCells]) fun o17 hb17 hk17 => ?_)
    have hob_17 := (hk17 _ (by omega)).trans hob_16
    have hzb_17 := (hk17 _ (by omega)).trans hzb_16
    have hd_17 := dst_keep hd_16 fun t e => hk17 t (by have := hq t e; omega)
    refine u_nil ?_
    refine WP.dr2 [.q 0 0, .q 0 0, .q 0 0, .q 0 0, .q 0 0, .w 0, .q 1 1, .w 1] [5, 7] ((nk2 + 1) + 1) ((nk2 + 1) + 1) tabOk (by kernel_rfl) rfl (by kernel_rfl) (by kernel_rfl) ?_
    apply Exists.intro
    apply Exists.intro
    refine e_step rfl (o_fa_loc rfl th69 rfl rfl th67 (by decide) hob_17 ⟨rfl, rfl, rfl⟩) ?_
    refine e_step rfl (o_ld_locV rfl th67 rfl hob_17 rfl ⟨rfl, rfl, rfl⟩) ?_
    refine e_step rfl (o_ld_agg rfl th69 rfl hb17 rfl rfl rfl ⟨rfl, rfl, rfl⟩) ?_
    refine e_step rfl (o_pcall (pv (v := xs[i]) (ih _ (by exact items_lt' (by omega) hv) (by have := szVs_get (xs := xs) (j := i) (by omega); omega))) rfl ⟨rfl, rfl, rfl⟩) ?_
    first | refine e_step rfl (o_bs rfl th67 rfl th69 rfl rfl (by decide) rfl (by decide) (by decide) ⟨rfl, rfl, rfl⟩) ?_ | refine e_step rfl (o_bs1 rfl (by simp only [encV_width]) th67 rfl th69 rfl rfl (by decide) (by decide) ⟨rfl, rfl, rfl⟩) ?_
    refine e_w rfl rfl (w_apD rfl th67 rfl th69 rfl rfl (by decide) rfl hd_17 (by simp only [encVs_length, List.length_take, List.length_cons, List.length_nil]; omega) (by simp only [encVs_length, List.length_take, List.length_cons, List.length_nil]; omega) ⟨rfl, rfl, rfl⟩) ?_
    refine e_step rfl (o_fa_loc rfl th69 rfl rfl th67 (by decide) (((upd_ne _ _ (by omega)).trans (killo_ne (fun e => by have := hq _ e; omega))).trans hob_17) ⟨rfl, rfl, rfl⟩) ?_
    refine e_w0 rfl rfl (w_stV rfl rfl (upd_same _ _ _) th67 rfl (((upd_ne _ _ (by omega)).trans (killo_ne (fun e => by have := hq _ e; omega))).trans hob_17) (by simp) ⟨rfl, rfl, rfl⟩) ?_
    refine e_nil rfl fun o20 ho20 => ?_
    have hbZ_20 := (ho20 _).trans ((upd_ne _ _ (by omega)).trans (((upd_ne _ _ (by omega)).trans (killo_ne (fun e => by have := hq _ e; omega))).trans hzb_17))
    have hbb16_20 := (ho20 _).trans ((upd_ne _ _ (by omega)).trans (((upd_ne _ _ (by omega)).trans (killo_ne (fun e => by have := hq _ e; omega))).trans hb17))
    have hbr18_20 := (ho20 _).trans ((upd_ne _ _ (by omega)).trans (upd_same _ _ _))
    have hbB_20 := (ho20 _).trans (upd_same _ _ _)
    have hk20 : ∀ t, t < nk → o20 t = o17 t := fun t ht => (ho20 t).trans ((upd_ne _ _ (by omega)).trans ((upd_ne _ _ (by omega)).trans (killo_ne (fun e => by have := hq _ e; omega))))
    refine hK14 _ ?_
    refine WP.reg tabOk rfl ?_
    refine ub ?_
    refine um ?_
    refine u_nil ?_
    -- back
    refine ⟨⟨i + 1, .row _, some _, o20, ((nk2 + 1) + 1)⟩, ⟨by omega, by omega, hbB_20, hbZ_20, (encVs_snoc (xs := xs) (i := i) (by omega)) ▸ dst_row hbr18_20, fun t e => by injection e with e; omega, (fun t ht => (hk20 t (by omega)).trans ((hk17 t (by omega)).trans ((hk16 t (by omega)).trans ((hfr t (by omega))))))⟩, by simp only; omega, ?_⟩
    refine Le.al ?_
    simp only [List.forall_mem_cons]
    exact ⟨rfl, rfl, rfl, rfl, cnt (by omega), by simp⟩
   ·
    refine WP.exit ?_
    refine hK9 _ ?_
    refine WP.frzC (pre := [.d (.int .i64 kd), .d (.int .i64 it), .d (.str tx)]) (post := [.d (.sl 1 (ns.map .str))]) [(1, .loc nk 0), (2, .loc (nk + 1) 0)] nk hob hd (Nat.le_refl _) (fun t e => ⟨rfl, rfl⟩) (fun t e => by simp only [List.forall_mem_cons]; exact ⟨rfl, rfl, by simp⟩) (fun e => by simp only [List.forall_mem_cons]; exact ⟨rfl, rfl, by simp⟩) fun o9 hB9 hk9 hm9 => ?_
    have hZ9 := hm9 _ _ (by omega) hzb fun t e => rfl
    have hF9 : ∀ t, t < nk → o9 t = o t := fun t ht => (hk9 t ht (fun e => by have := hq _ e; omega)).trans (hfr t ht)
    refine wr ?_
    refine ug th69 hB9 ?_
    refine u_step0 (g_sta rfl rfl th69 rfl hZ9 (by first | (simp; done) | (simp [D.leaves, D.width, valCells]; done) | decide) fun o22 hb22 hk22 => ?_)
    have hB9_22 := (hk22 _ (by omega)).trans hB9
    refine u_nil ?_
    refine WP.ret ?_
    refine retC1_ok (resis_agg rfl th69 rfl hb22 rfl rfl rfl) ?_ (by omega) (fun t ht => (hk22 t (by omega)).trans ((hF9 t (by omega))))
    rw [List.take_of_length_le (by omega)]
    rfl
  ·
   refine ⟨by omega, by omega, hb8, hb3_8, rfl, by simp, (fun t ht => (hk8 t (by omega)).trans ((hk5 t (by omega)).trans ((hk3 t (by omega)).trans ((hk2 t (by omega))))))⟩
  ·
   refine Le.al ?_
   simp only [List.forall_mem_cons]
   exact ⟨rfl, rfl, rfl, rfl, rfl, by simp⟩
theorem s103 (v : Val) (hsz : szV v ≤ 1099511627776) : PSpec Tryz.prog 103 [.d (encV v)] (.d (encV v)) := s103A _ v (Nat.lt_succ_self _) hsz

end Go.Proofs.YtmielecljgfnaaaGreat.Abs

set_option linter.unusedVariables false
set_option linter.unusedSimpArgs false
set_option maxRecDepth 10000
namespace Go.Proofs.YtmielecljgfnaaaGreat.Abs
open Go
/-- The place of a step's item; -1: there is none. -/
def placeV (v : Val) (s : Str) : Int :=
  if v.kind = 7 then idxS v.names s else if v.kind = 6 then (if stepI s < v.items.length then stepI s else -1) else -1
/-- What lies at a path. -/
def getV : Val → List Str → Option Val
  | v, [] => some v
  | v, s :: p => if 0 ≤ placeV v s then (match v.items[(placeV v s).toNat]? with
    | some x => getV x p
    | none => none) else none
theorem place7 {k i : Int} {t : Str} {xs : List Val} {ns : List Str} {s : Str} (h : k = 7) : placeV (.mk k i t xs ns) s = idxS ns s := by
  show (if k = 7 then _ else _) = _
  rw [if_pos h]; rfl
def zeroV : Val := .mk 0 0 [] [] []
/-- A value that was looked for. -/
def optL (o : Option Val) : List D := [encV (o.getD zeroV), .bool o.isSome]
def optL0 (o : Option Val) : List D := [match o with
  | some v => encV v
  | none => .agg [.int .i64 0, .int .i64 0, .str [], .nil, .nil], .bool o.isSome]
theorem opt_le (o : Option Val) : D.les (optL0 o) (optL o) := by
  cases o with
  | none => simp [optL0, optL, D.les, D.le, zeroV, encV, encVs]
  | some v => exact D.les_refl _
/-- What lies at a path of a document. -/
def getP (v : Val) (p : List Str) : Option Val := if v.kind = 7 ∧ mayV v = true ∧ pathV p = true then getV v p else none
theorem item_ex {xs : List Val} {j : Nat} (h : j < xs.length) : ∃ x, xs[j]? = some x := ⟨_, List.getElem?_eq_getElem h⟩
theorem getP_no {v : Val} {p : List Str} (hq : ((if v.kind ≠ 7 ∨ mayV v = false then (20 : Int) else if pathV p = true then 0 else 40) != 0) = true) : getP v p = none := by
  simp only [bne_iff_ne, ne_eq] at hq
  unfold getP
  rw [if_neg]
  rintro ⟨q1, q2, q3⟩
  rw [if_neg (by simp [q1, q2]), if_pos q3] at hq
  exact hq rfl
theorem getP_yes {v : Val} {p : List Str} (hq : ((if v.kind ≠ 7 ∨ mayV v = false then (20 : Int) else if pathV p = true then 0 else 40) != 0) = false) : getP v p = getV v p ∧ mayV v = true := by
  simp only [bne_eq_false_iff_eq] at hq
  unfold getP
  split at hq
  · cases hq
  · rename_i hq1
    simp only [ne_eq, not_or, Classical.not_not, Bool.not_eq_false] at hq1
    split at hq
    · rename_i hq2; exact ⟨if_pos ⟨hq1.1, hq1.2, hq2⟩, hq1.2⟩
    · cases hq
theorem pv2 {P : Program} {f : FuncId} {v : Val} {c : SV} {r : SV} (h : PSpec P f [.d (encV v), c] r) : PSpec P f [.d (.agg (valCells v)), c] r := encV_eq v ▸ h
theorem get_step {v : Val} {s : Str} {p : List Str} {x : Val} (h : 0 ≤ placeV v s) (hx : v.items[(placeV v s).toNat]? = some x) : getV v (s :: p) = getV x p := by
  rw [getV, if_pos h, hx]
theorem get_no {v : Val} {s : Str} {p : List Str} (h : placeV v s < 0) : getV v (s :: p) = none := by
  rw [getV, if_neg (by omega)]
theorem items_at {v : Val} {j : Nat} {x : Val} (h : v.items[j]? = some x) : (encVs v.items)[j]? = some (encV x) := by
  rw [encVs_map, List.getElem?_map, h]; rfl
theorem s298b (s : Str) : PSpec Tryz.prog 298 [.d (.str s)] (.tup [.d (.int .i64 (if 0 ≤ stepI s then stepI s else 0)), .d (.bool (decide (0 ≤ stepI s)))]) := by
  have h := s298 s
  have e : (idxL s).map SV.d = [.d (.int .i64 (if 0 ≤ stepI s then stepI s else 0)), .d (.bool (decide (0 ≤ stepI s)))] := by
    unfold idxL
    split <;> simp_all
  rwa [e] at h
theorem idx_lt (ns : List Str) (s : Str) : idxS ns s < ns.length := by
  unfold idxS firstI
  split
  · rename_i h
    have := List.findIdx_lt_length_of_exists (xs := ns) (p := fun x => decide (s = x)) (by simpa using h)
    omega
  · omega
theorem stepI_ge (s : Str) : -1 ≤ stepI s := by unfold stepI; split <;> (try split) <;> omega
theorem may_item {v : Val} (h : mayV v = true) {x : Val} (hx : x ∈ v.items) : mayV x = true := by
  obtain ⟨k, i, t, xs, ns⟩ := v
  obtain ⟨j, hj, rfl⟩ := List.mem_iff_getElem.1 hx
  exact may_items h hj
theorem place_lt {v : Val} (h : mayV v = true) (s : Str) : placeV v s < v.items.length := by
  unfold placeV
  split
  · rename_i hk
    obtain ⟨k, i, t, xs, ns⟩ := v
    simp only [Val.kind] at hk
    subst hk
    have := idx_lt ns s
    have := may7 h
    simp only [Val.names, Val.items]
    omega
  · split
    · split <;> omega
    · omega
theorem get_may : ∀ (p : List Str) (v x : Val), mayV v = true → getV v p = some x → mayV x = true
  | [], v, x, hv, h => by simp only [getV, Option.some.injEq] at h; rw [← h]; exact hv
  | s :: p, v, x, hv, h => by
    simp only [getV] at h
    split at h
    · split at h
      · rename_i y hy
        exact get_may p y x (may_item hv (List.mem_of_getElem? hy)) h
      · cases h
    · cases h
theorem sz_item {v : Val} {j : Nat} {x : Val} (h : v.items[j]? = some x) : szV x ≤ szV v := by
  obtain ⟨k, i, t, xs, ns⟩ := v
  simp only [Val.items] at h
  obtain ⟨hj, rfl⟩ := List.getElem?_eq_some_iff.1 h
  have := szVs_get hj
  simp only [szV]; omega
/-- A part of a struct of the program's: what an entry is. -/
structure Etr where
  term : Int
  kind : Int
  coll : Str
  to : Str
  id : Val
  doc : Val
  deltas : List Dlt
  session : Int
  number : Int
def encE (e : Etr) : D := .agg ([.int .i64 e.term, .int .i64 e.kind, .str e.coll, .str e.to] ++ valCells e.id ++ valCells e.doc ++ [.sl 8 (e.deltas.map encD), .int .i64 e.session, .int .i64 e.number])
structure Flt where
  coll : Str
  path : List Str
  kinds : Int
theorem fn288 : FnOk Tryz.prog 288 31 [4] (bodyOf Tryz.f288) := ⟨Tryz.f288, Tryz.func288, by kernel_rfl, by decide, by kernel_rfl, by kernel_rfl⟩
theorem s288 (v : Val) (s : Str) : PSpec Tryz.prog 288 [.d (encV v), .d (.str s)] (.d (.int .i64 (placeV v s))) := by
 obtain ⟨kd, it, tx, xs, ns⟩ := v
 refine PSpec.of fn288 (by simp) fun o nk => ?_
 refine wr ?_
 refine u_step (g_box rfl fun o2 hb2 hk2 => ?_)
 refine ua ?_
 refine u_nil ?_
 refine WP.seq fun K3 hK3 => ?_
 refine wr ?_
 refine uf th69 th3 hb2 ?_
 refine ul th3 hb2 ?_
 refine u_nil ?_
 refine WP.block ?_
 refine wr ?_
 refine ub ?_
 refine ua ?_
 refine u_nil ?_
 refine wc (fun hc6 => ?_) (fun hc6 => ?_) <;> try simp only [Q0, Q1, Q2, Q3, Q4, Q5, Q6, Q7, Q8, ge_iff_le, gt_iff_lt] at hc6
 ·
  refine wr ?_
  refine uf th69 th60 hb2 ?_
  refine ul th60 hb2 ?_
  refine um ?_
  refine u_step (o_pcall (s304 ns s) rfl ?_)
  refine ua ?_
  refine u_nil ?_
  refine WP.ret ?_
  refine ret_ok rfl ?_ (by omega) (fun t ht => (hk2 t (by omega)))
  -- ret 1
  clear hK3
  refine congrArg (D.int .i64) ?_
  have e1 := encVs_length xs
  have e2 := stepI_ge s
  simp only [beq_iff_eq, beq_eq_false_iff_ne, ne_eq, Bool.and_eq_true, Bool.and_eq_false_iff, decide_eq_true_eq, decide_eq_false_iff_not] at hc6
  simp only [placeV, Val.kind, Val.items, Val.names]
  grind
 ·
  refine wr ?_
  refine ub ?_
  refine ua ?_
  refine u_nil ?_
  refine wc (fun hc9 => ?_) (fun hc9 => ?_) <;> try simp only [Q0, Q1, Q2, Q3, Q4, Q5, Q6, Q7, Q8, ge_iff_le, gt_iff_lt] at hc9
  ·
   refine wr ?_
   refine um ?_
   refine u_step (o_pcall (s298b s) rfl ?_)
   refine u_step (o_moveV (v := .tup _) rfl ?_)
   refine ue ?_
   refine ue ?_
   refine ua ?_
   refine ua ?_
   refine u_nil ?_
   refine wr ?_
   refine um ?_
   refine um ?_
   apply gT
   · rfl
   · intro hg
     exact pm
   apply gT
   · rfl
   · intro hg
     exact pf th69 th67 hb2
   apply gT
   · rfl
   · intro hg; try simp only [hg, ct]; try simp only [hg, ct, Bt]
     exact pl th67 hb2
   apply gT
   · rfl
   · intro hg; try simp only [hg, ct]; try simp only [hg, ct, Bt]
     exact pn th67
   apply gT
   · rfl
   · intro hg; try simp only [hg, ct]; try simp only [hg, ct, Bt]
     exact pb
   refine uA ?_
   refine u_nil ?_
   refine wc (fun hc12 => ?_) (fun hc12 => ?_) <;> try simp only [Q0, Q1, Q2, Q3, Q4, Q5, Q6, Q7, Q8, ge_iff_le, gt_iff_lt] at hc12
   ·
    refine wr ?_
    refine um ?_
    refine ua ?_
    refine u_nil ?_
    refine WP.ret ?_
    refine ret_ok rfl ?_ (by omega) (fun t ht => (hk2 t (by omega)))
    -- ret 2
    clear hK3
    refine congrArg (D.int .i64) ?_
    have e1 := encVs_length xs
    have e2 := stepI_ge s
    simp only [beq_iff_eq, beq_eq_false_iff_ne, ne_eq, Bool.and_eq_true, Bool.and_eq_false_iff, decide_eq_true_eq, decide_eq_false_iff_not] at hc6 hc9 hc12
    simp only [placeV, Val.kind, Val.items, Val.names]
    grind
   ·
    refine WP.skip ?_
    refine hK3 _ ?_
    refine wr ?_
    refine ua ?_
    refine u_nil ?_
    refine WP.ret ?_
    refine ret_ok rfl ?_ (by omega) (fun t ht => (hk2 t (by omega)))
    -- ret 3
    clear hK3
    refine congrArg (D.int .i64) ?_
    have e1 := encVs_length xs
    have e2 := stepI_ge s
    simp only [beq_iff_eq, beq_eq_false_iff_ne, ne_eq, Bool.and_eq_true, Bool.and_eq_false_iff, decide_eq_true_eq, decide_eq_false_iff_not] at hc6 hc9 hc12
    simp only [placeV, Val.kind, Val.items, Val.names]
    grind
  ·
   refine WP.skip ?_
   refine hK3 _ ?_
   refine wr ?_
   refine ua ?_
   refine u_nil ?_
   refine WP.ret ?_
   refine ret_ok rfl ?_ (by omega) (fun t ht => (hk2 t (by omega)))
   -- ret 4
   clear hK3
   refine congrArg (D.int .i64) ?_
   have e1 := encVs_length xs
   have e2 := stepI_ge s
   simp only [beq_iff_eq, beq_eq_false_iff_ne, ne_eq, Bool.and_eq_true, Bool.and_eq_false_iff, decide_eq_true_eq, decide_eq_false_iff_not] at hc6 hc9
   simp only [placeV, Val.kind, Val.items, Val.names]
   grind

theorem fn216 : FnOk Tryz.prog 216 36 [4] (bodyOf Tryz.f216) := ⟨Tryz.f216, Tryz.func216, by kernel_rfl, by decide, by kernel_rfl, by kernel_rfl⟩
theorem s216 (v : Val) (s : Str) : PSpec Tryz.prog 216 [.d (encV v), .d (.str s)] (.d (.int .i64 (placeV v s))) := by
 refine PSpec.bd fun hbd => ?_
 obtain ⟨kd, it, tx, xs, ns⟩ := v
 have hx : ns.length ≤ 9223372036854775807 := by simpa using hbd.1.2.2.2.2.1.1
 refine PSpec.of fn216 (by simp) fun o nk => ?_
 refine wr ?_
 refine u_step (g_box rfl fun o2 hb2 hk2 => ?_)
 refine ua ?_
 refine u_nil ?_
 refine WP.seq fun K3 hK3 => ?_
 refine wr ?_
 refine uf th69 th3 hb2 ?_
 refine ul th3 hb2 ?_
 refine ub ?_
 refine u_nil ?_
 refine wc (fun hc5 => ?_) (fun hc5 => ?_) <;> try simp only [Q0, Q1, Q2, Q3, Q4, Q5, Q6, Q7, Q8, ge_iff_le, gt_iff_lt] at hc5
 ·
  refine WP.seq fun K6 hK6 => ?_
  refine wr ?_
  refine um ?_
  refine u_step (o_pcall (s218 s) rfl ?_)
  refine ua ?_
  refine u_nil ?_
  refine wr ?_
  refine um ?_
  refine uf th69 th67 hb2 ?_
  refine ul th67 hb2 ?_
  refine un th67 ?_
  refine ub ?_
  refine u_nil ?_
  refine wc (fun hc9 => ?_) (fun hc9 => ?_) <;> try simp only [Q0, Q1, Q2, Q3, Q4, Q5, Q6, Q7, Q8, ge_iff_le, gt_iff_lt] at hc9
  ·
   refine wr ?_
   refine um ?_
   refine ua ?_
   refine u_nil ?_
   refine WP.ret ?_
   refine ret_ok rfl ?_ (by omega) (fun t ht => (hk2 t (by omega)))
   -- ret 1
   clear hK3 hK6
   refine congrArg (D.int .i64) ?_
   have e1 := encVs_length xs
   have e2 := stepI_ge s
   simp only [beq_iff_eq, beq_eq_false_iff_ne, ne_eq, decide_eq_true_eq, decide_eq_false_iff_not] at hc5 hc9
   simp only [placeV, Val.kind, Val.items, Val.names]
   grind
  ·
   refine WP.skip ?_
   refine hK6 _ ?_
   refine wr ?_
   refine ua ?_
   refine u_nil ?_
   refine WP.ret ?_
   refine ret_ok rfl ?_ (by omega) (fun t ht => (hk2 t (by omega)))
   -- ret 2
   clear hK3 hK6
   refine congrArg (D.int .i64) ?_
   have e1 := encVs_length xs
   have e2 := stepI_ge s
   simp only [beq_iff_eq, beq_eq_false_iff_ne, ne_eq, decide_eq_true_eq, decide_eq_false_iff_not] at hc5 hc9
   simp only [placeV, Val.kind, Val.items, Val.names]
   grind
 ·
  refine WP.skip ?_
  refine hK3 _ ?_
  refine WP.seq fun K12 hK12 => ?_
  refine wr ?_
  refine uf th69 th3 hb2 ?_
  refine ul th3 hb2 ?_
  refine ub ?_
  refine u_nil ?_
  refine wc (fun hc14 => ?_) (fun hc14 => ?_) <;> try simp only [Q0, Q1, Q2, Q3, Q4, Q5, Q6, Q7, Q8, ge_iff_le, gt_iff_lt] at hc14
  ·
   have hk : kd = 7 := by simpa using hc14
   refine wr ?_
   refine ua ?_
   refine u_nil ?_
   refine WP.block ?_
   refine WP.loopL (ι := Nat) (fun i => ⟨al [(1, .d (.str s)), (2, .loc nk 0), (6, .d (.int .i64 i))], o2, (nk + 1)⟩) (fun i => i ≤ ns.length ∧ ∀ (j : Nat) (hj : j < ns.length), j < i → decide (s = ns[j]) = false) (fun i => ns.length - i) (fun i hA => ?_) 0 ?_ ?_
   ·
    obtain ⟨hle_i, hin_i⟩ := hA
    refine WP.seq fun K16 hK16 => ?_
    refine wr ?_
    refine um ?_
    refine uf th69 th60 hb2 ?_
    refine ul th60 hb2 ?_
    refine un th60 ?_
    refine ub ?_
    refine u_nil ?_
    refine wc (fun hc18 => ?_) (fun hc18 => ?_) <;> try simp only [Q0, Q1, Q2, Q3, Q4, Q5, Q6, Q7, Q8, ge_iff_le, gt_iff_lt] at hc18
    ·
     refine WP.skip ?_
     refine hK16 _ ?_
     refine WP.seq fun K19 hK19 => ?_
     refine WP.block ?_
     refine wr ?_
     refine uf th69 th60 hb2 ?_
     refine ul th60 hb2 ?_
     refine um ?_
     first | refine u_step (o_ia_map rfl rfl th60 rfl th9 rfl (by omega) ?_) | refine u_step (o_ia_vs rfl rfl th60 rfl th9 rfl (by omega) ?_)
     refine uL th9 ?_
     refine um ?_
     refine us ?_
     refine u_nil ?_
     refine wc (fun hc21 => ?_) (fun hc21 => ?_) <;> try simp only [Q0, Q1, Q2, Q3, Q4, Q5, Q6, Q7, Q8, ge_iff_le, gt_iff_lt] at hc21
     ·
      refine wr ?_
      refine um ?_
      refine ua ?_
      refine u_nil ?_
      refine WP.ret ?_
      refine ret_ok rfl ?_ (by omega) (fun t ht => (hk2 t (by omega)))
      -- ret 3
      clear hK3 hK12 hK16 hK19
      have hl : ns[i] = s := by simpa using hc21
      refine congrArg (D.int .i64) ?_
      rw [place7 hk, idxS, firstI_at (p := fun x => decide (s = x)) (xs := ns) (i := i) (by omega) (decide_eq_true hl.symm) hin_i]
     ·
      refine WP.skip ?_
      refine hK19 _ ?_
      refine WP.reg tabOk rfl ?_
      refine um ?_
      refine ub ?_
      refine ua ?_
      refine u_nil ?_
      -- back
      refine ⟨i + 1, ⟨by omega, ?_⟩, by omega, ?_⟩
      · intro j hj h1
        by_cases h2 : j = i
        · subst h2; have hl := hc21; simp only [decide_eq_false_iff_not] at hl ⊢; exact fun e => hl e.symm
        · exact hin_i j hj (by omega)
      · refine Le.al ?_
        simp only [List.forall_mem_cons]
        exact ⟨rfl, rfl, cnt (by omega), by simp⟩
    ·
     refine WP.exit ?_
     refine hK12 _ ?_
     refine wr ?_
     refine ua ?_
     refine u_nil ?_
     refine WP.ret ?_
     refine ret_ok rfl ?_ (by omega) (fun t ht => (hk2 t (by omega)))
     -- ret 4
     clear hK3 hK12 hK16
     refine congrArg (D.int .i64) ?_
     rw [place7 hk, idxS, firstI_none (p := fun x => decide (s = x)) (xs := ns) fun j hj => hin_i j hj (by omega)]
   ·
    simp
   ·
    refine Le.al ?_
    simp only [List.forall_mem_cons]
    exact ⟨rfl, rfl, rfl, by simp⟩
  ·
   refine WP.skip ?_
   refine hK12 _ ?_
   refine wr ?_
   refine ua ?_
   refine u_nil ?_
   refine WP.ret ?_
   refine ret_ok rfl ?_ (by omega) (fun t ht => (hk2 t (by omega)))
   -- ret 5
   clear hK3 hK12
   refine congrArg (D.int .i64) ?_
   have e1 := encVs_length xs
   have e2 := stepI_ge s
   simp only [beq_iff_eq, beq_eq_false_iff_ne, ne_eq, decide_eq_true_eq, decide_eq_false_iff_not] at hc5 hc14
   simp only [placeV, Val.kind, Val.items, Val.names]
   grind

theorem fn265 : FnOkC Tryz.prog 265 34 [.cell 4 69, .tmp 5] (bodyOf Tryz.f265) := ⟨Tryz.f265, Tryz.func265, by kernel_rfl, by decide, by kernel_rfl, by kernel_rfl⟩
theorem s265a (v : Val) (p : List Str) (hsz : szV v ≤ 1099511627776) : PSpec Tryz.prog 265 [.d (encV v), .d (.sl 1 (p.map .str))] (.tup ((optL0 (getP v p)).map .d)) := by
 refine PSpec.bd fun hbd => ?_
 obtain ⟨kd, it, tx, xs, ns⟩ := v
 have hx : p.length ≤ 9223372036854775807 := by simpa using hbd.2.1.1
 refine PSpec.of2C tabOk fn265 (by simp) fun o nk => ?_
 refine wr ?_
 refine u_step (g_box rfl fun o2 hb2 hk2 => ?_)
 refine u_step (g_alloc th69 rfl fun o3 hb3 hk3 => ?_)
 have hb2_3 := (hk3 _ (by omega)).trans hb2
 refine ua ?_
 refine u_nil ?_
 refine WP.seq fun K4 hK4 => ?_
 refine wr ?_
 refine ug th69 hb2_3 ?_
 refine um ?_
 refine u_step (o_pcall (s278 (.mk kd it tx xs ns) p) rfl ?_)
 refine ub ?_
 refine u_nil ?_
 refine wc (fun hc6 => ?_) (fun hc6 => ?_) <;> try simp only [Q0, Q1, Q2, Q3, Q4, Q5, Q6, Q7, Q8, ge_iff_le, gt_iff_lt] at hc6
 ·
  refine wr ?_
  refine u_step (o_bu rfl th69 rfl rfl ?_)
  refine u_step0 (g_sta rfl rfl th69 rfl hb3 (by first | (simp; done) | (simp [D.leaves, D.width, valCells]; done) | decide) fun o8 hb8 hk8 => ?_)
  have hb2_8 := (hk8 _ (by omega)).trans hb2_3
  refine ua ?_
  refine u_nil ?_
  refine WP.ret ?_
  refine retC_ok (resis_agg rfl th69 rfl hb8 rfl rfl rfl) rfl ?_ ?_ (by omega) (fun t ht => (hk8 t (by omega)).trans ((hk3 t (by omega)).trans ((hk2 t (by omega)))))
  · rw [getP_no hc6]
  · rw [getP_no hc6]; rfl
 ·
  obtain ⟨hp, hmv⟩ := getP_yes hc6
  refine WP.skip ?_
  refine hK4 _ ?_
  refine WP.seq fun K9 hK9 => ?_
  refine wr ?_
  refine um ?_
  refine un th60 ?_
  refine um ?_
  refine u_nil ?_
  refine WP.block ?_
  refine WP.loopL (ι := Nat × Val × (Nat → Option AO)) (fun ⟨i, u, o2⟩ => ⟨al [(2, .loc nk 0), (4, .loc (nk + 1) 0), (14, .d (.sl 1 (p.map .str))), (15, .d (.int .i64 (p.map D.str).length)), (16, .d (.int .i64 i))], o2, ((nk + 1) + 1)⟩) (fun ⟨i, u, o2⟩ => i ≤ p.length ∧ o2 nk = some (.box ((valCells u).map .d)) ∧ o2 (nk + 1) = some (.box [.d (.int .i64 0), .d (.int .i64 0), .d (.str []), .d .nil, .d .nil]) ∧ (∀ t, t < nk → o2 t = o t) ∧ mayV u = true ∧ szV u ≤ 1099511627776 ∧ getV (.mk kd it tx xs ns) p = getV u (p.drop i)) (fun ⟨i, u, o2⟩ => p.length - i) (fun ⟨i, u, o2⟩ hA => ?_) ⟨0, (.mk kd it tx xs ns), o3⟩ ?_ ?_
  ·
   obtain ⟨hle, hob, hzb, hfr, hmu, hsu, hgt⟩ := hA
   refine wr ?_
   refine ub ?_
   refine u_nil ?_
   refine WP.seq fun K12 hK12 => ?_
   refine wc (fun hc13 => ?_) (fun hc13 => ?_) <;> try simp only [Q0, Q1, Q2, Q3, Q4, Q5, Q6, Q7, Q8, ge_iff_le, gt_iff_lt] at hc13
   ·
    refine WP.skip ?_
    refine hK12 _ ?_
    refine WP.seq fun K14 hK14 => ?_
    refine WP.block ?_
    refine wr ?_
    first | refine u_step (o_ia_map rfl rfl th60 rfl th9 rfl (by omega) ?_) | refine u_step (o_ia_vs rfl rfl th60 rfl th9 rfl (by omega) ?_)
    refine uL th9 ?_
    refine ua ?_
    refine u_nil ?_
    refine wr ?_
    refine ug th69 hob ?_
    refine um ?_
    refine u_step (o_pcall (pv2 (v := u) (s288 u p[i])) rfl ?_)
    refine ua ?_
    refine u_nil ?_
    refine WP.seq fun K17 hK17 => ?_
    refine wr ?_
    refine um ?_
    refine ub ?_
    refine u_nil ?_
    refine wc (fun hc19 => ?_) (fun hc19 => ?_) <;> try simp only [Q0, Q1, Q2, Q3, Q4, Q5, Q6, Q7, Q8, ge_iff_le, gt_iff_lt] at hc19
    ·
     refine wr ?_
     refine u_step (o_bu rfl th69 rfl rfl ?_)
     refine u_step0 (g_sta rfl rfl th69 rfl hzb (by first | (simp; done) | (simp [D.leaves, D.width, valCells]; done) | decide) fun o21 hb21 hk21 => ?_)
     have hob_21 := (hk21 _ (by omega)).trans hob
     refine ua ?_
     refine u_nil ?_
     refine WP.ret ?_
     refine retC_ok (resis_agg rfl th69 rfl hb21 rfl rfl rfl) rfl ?_ ?_ (by omega) (fun t ht => (hk21 t (by omega)).trans ((hfr t (by omega))))
     · rw [hp, hgt, List.drop_eq_getElem_cons (by omega), get_no (by omega)]
     · rw [hp, hgt, List.drop_eq_getElem_cons (by omega), get_no (by omega)]; rfl
    ·
     have hp0 : 0 ≤ placeV u p[i] := by omega
     have hlt := place_lt hmu p[i]
     obtain ⟨x, hx⟩ : ∃ x, u.items[(placeV u p[i]).toNat]? = some x := item_ex (xs := u.items) (j := (placeV u p[i]).toNat) (by omega)
     have hxs := sz_item hx
     refine WP.skip ?_
     refine hK17 _ ?_
     refine WP.reg tabOk rfl ?_
     refine uf th69 th67 hob ?_
     refine ul th67 hob ?_
     refine um ?_
     refine u_step (o_ia_sl (a := encV x) rfl rfl th67 rfl th69 rfl (by omega) (items_at hx) ?_)
     refine u_step (o_ld_el rfl th69 (by simp only [encV_leaf, TK.agg, Bool.not_true]) (by simp only [encV_width]) ?_)
     refine u_step0 (g_sta rfl (congrArg SV.d (encV_eq x)) th69 rfl hob (by simp [valCells]) fun o22 hb22 hk22 => ?_)
     have hzb_22 := (hk22 _ (by omega)).trans hzb
     refine u_nil ?_
     refine hK14 _ ?_
     refine WP.reg tabOk rfl ?_
     refine ub ?_
     refine um ?_
     refine u_nil ?_
     -- back
     refine ⟨⟨i + 1, x, o22⟩, ⟨by omega, hb22, hzb_22, (fun t ht => (hk22 t (by omega)).trans ((hfr t (by omega)))), may_item hmu (List.mem_of_getElem? hx), by omega, ?_⟩, by simp only; omega, ?_⟩
     · rw [hgt, List.drop_eq_getElem_cons (by omega), get_step hp0 hx]
     · refine Le.al ?_
       simp only [List.forall_mem_cons]
       exact ⟨rfl, rfl, rfl, rfl, cnt (by omega), by simp⟩
   ·
    refine WP.exit ?_
    refine hK9 _ ?_
    refine wr ?_
    refine ug th69 hob ?_
    refine u_step (o_pcall (pv (v := u) (s103 u (by omega))) rfl ?_)
    refine u_step0 (g_sta rfl (congrArg SV.d (encV_eq u)) th69 rfl hzb (by simp [valCells]) fun o24 hb24 hk24 => ?_)
    have hob_24 := (hk24 _ (by omega)).trans hob
    refine ua ?_
    refine u_nil ?_
    refine WP.ret ?_
    refine retC_ok (resis_agg rfl th69 rfl hb24 rfl rfl rfl) rfl ?_ ?_ (by omega) (fun t ht => (hk24 t (by omega)).trans ((hfr t (by omega))))
    · rw [hp, hgt, List.drop_eq_nil_of_le (by omega), getV]; exact (encV_eq u).symm
    · rw [hp, hgt, List.drop_eq_nil_of_le (by omega), getV]; rfl
  ·
   exact ⟨by omega, hb2_3, hb3, (fun t ht => (hk3 t (by omega)).trans ((hk2 t (by omega)))), hmv, hsz, rfl⟩
  ·
   refine Le.al ?_
   simp only [List.forall_mem_cons]
   exact ⟨rfl, rfl, rfl, rfl, rfl, by simp⟩

theorem fn179 : FnOkC Tryz.prog 179 29 [.cell 4 69, .tmp 5] (bodyOf Tryz.f179) := ⟨Tryz.f179, Tryz.func179, by kernel_rfl, by decide, by kernel_rfl, by kernel_rfl⟩
theorem s179a (v : Val) (p : List Str) (hm : mayV v = true) : PSpec Tryz.prog 179 [.d (encV v), .d (.sl 1 (p.map .str))] (.tup ((optL0 (getV v p)).map .d)) := by
 refine PSpec.bd fun hbd => ?_
 obtain ⟨kd, it, tx, xs, ns⟩ := v
 have hx : p.length ≤ 9223372036854775807 := by simpa using hbd.2.1.1
 refine PSpec.of2C tabOk fn179 (by simp) fun o nk => ?_
 refine wr ?_
 refine u_step (g_box rfl fun o2 hb2 hk2 => ?_)
 refine u_step (g_alloc th69 rfl fun o3 hb3 hk3 => ?_)
 have hb2_3 := (hk3 _ (by omega)).trans hb2
 refine ua ?_
 refine u_nil ?_
 refine WP.seq fun K4 hK4 => ?_
 refine wr ?_
 refine ua ?_
 refine u_nil ?_
 refine WP.block ?_
 refine WP.loopL (ι := Nat × Val × (Nat → Option AO)) (fun ⟨i, u, o2⟩ => ⟨al [(1, .d (.sl 1 (p.map .str))), (2, .loc nk 0), (4, .loc (nk + 1) 0), (6, .d (.int .i64 i))], o2, ((nk + 1) + 1)⟩) (fun ⟨i, u, o2⟩ => i ≤ p.length ∧ o2 nk = some (.box ((valCells u).map .d)) ∧ o2 (nk + 1) = some (.box [.d (.int .i64 0), .d (.int .i64 0), .d (.str []), .d .nil, .d .nil]) ∧ (∀ t, t < nk → o2 t = o t) ∧ mayV u = true ∧ getV (.mk kd it tx xs ns) p = getV u (p.drop i)) (fun ⟨i, u, o2⟩ => p.length - i) (fun ⟨i, u, o2⟩ hA => ?_) ⟨0, (.mk kd it tx xs ns), o3⟩ ?_ ?_
 ·
  obtain ⟨hle, hob, hzb, hfr, hmu, hgt⟩ := hA
  refine WP.seq fun K6 hK6 => ?_
  refine wr ?_
  refine um ?_
  refine um ?_
  refine un th60 ?_
  refine ub ?_
  refine u_nil ?_
  refine wc (fun hc8 => ?_) (fun hc8 => ?_) <;> try simp only [Q0, Q1, Q2, Q3, Q4, Q5, Q6, Q7, Q8, ge_iff_le, gt_iff_lt] at hc8
  ·
   refine WP.skip ?_
   refine hK6 _ ?_
   refine WP.seq fun K9 hK9 => ?_
   refine WP.block ?_
   refine wd ?_
   refine dg th69 hob ?_
   refine dm ?_
   refine dm ?_
   first | refine d_step (o_ia_map rfl rfl th60 rfl th9 rfl (by omega) ⟨rfl, rfl, rfl⟩) ?_ | refine d_step (o_ia_vs rfl rfl th60 rfl th9 rfl (by omega) ⟨rfl, rfl, rfl⟩) ?_
   refine dL th9 ?_
   refine d_step (o_pcall (pv2 (v := u) (s216 u p[i])) rfl ⟨rfl, rfl, rfl⟩) ?_
   refine da ?_
   refine d_nil ?_
   refine WP.seq fun K11 hK11 => ?_
   refine wr ?_
   refine um ?_
   refine ub ?_
   refine u_nil ?_
   refine wc (fun hc13 => ?_) (fun hc13 => ?_) <;> try simp only [Q0, Q1, Q2, Q3, Q4, Q5, Q6, Q7, Q8, ge_iff_le, gt_iff_lt] at hc13
   ·
    refine wr ?_
    refine u_step (o_bu rfl th69 rfl rfl ?_)
    refine u_step0 (g_sta rfl rfl th69 rfl hzb (by first | (simp; done) | (simp [D.leaves, D.width, valCells]; done) | decide) fun o15 hb15 hk15 => ?_)
    have hob_15 := (hk15 _ (by omega)).trans hob
    refine ua ?_
    refine u_nil ?_
    refine WP.ret ?_
    refine retC_ok (resis_agg rfl th69 rfl hb15 rfl rfl rfl) rfl ?_ ?_ (by omega) (fun t ht => (hk15 t (by omega)).trans ((hfr t (by omega))))
    · rw [hgt, List.drop_eq_getElem_cons (by omega), get_no (by omega)]
    · rw [hgt, List.drop_eq_getElem_cons (by omega), get_no (by omega)]; rfl
   ·
    have hp0 : 0 ≤ placeV u p[i] := by omega
    have hlt := place_lt hmu p[i]
    obtain ⟨x, hx⟩ : ∃ x, u.items[(placeV u p[i]).toNat]? = some x := item_ex (xs := u.items) (j := (placeV u p[i]).toNat) (by omega)
    refine WP.skip ?_
    refine hK11 _ ?_
    refine WP.reg tabOk rfl ?_
    refine uf th69 th67 hob ?_
    refine ul th67 hob ?_
    refine um ?_
    refine u_step (o_ia_sl (a := encV x) rfl rfl th67 rfl th69 rfl (by omega) (items_at hx) ?_)
    refine u_step (o_ld_el rfl th69 (by simp only [encV_leaf, TK.agg, Bool.not_true]) (by simp only [encV_width]) ?_)
    refine u_step0 (g_sta rfl (congrArg SV.d (encV_eq x)) th69 rfl hob (by simp [valCells]) fun o16 hb16 hk16 => ?_)
    have hzb_16 := (hk16 _ (by omega)).trans hzb
    refine u_nil ?_
    refine hK9 _ ?_
    refine WP.reg tabOk rfl ?_
    refine um ?_
    refine ub ?_
    refine ua ?_
    refine u_nil ?_
    -- back
    refine ⟨⟨i + 1, x, o16⟩, ⟨by omega, hb16, hzb_16, (fun t ht => (hk16 t (by omega)).trans ((hfr t (by omega)))), may_item hmu (List.mem_of_getElem? hx), ?_⟩, by simp only; omega, ?_⟩
    · rw [hgt, List.drop_eq_getElem_cons (by omega), get_step hp0 hx]
    · refine Le.al ?_
      simp only [List.forall_mem_cons]
      exact ⟨rfl, rfl, rfl, cnt (by omega), by simp⟩
  ·
   refine WP.exit ?_
   refine hK4 _ ?_
   refine wr ?_
   refine ug th69 hob ?_
   refine u_step0 (g_sta rfl rfl th69 rfl hzb (by first | (simp; done) | (simp [D.leaves, D.width, valCells]; done) | decide) fun o18 hb18 hk18 => ?_)
   have hob_18 := (hk18 _ (by omega)).trans hob
   refine ua ?_
   refine u_nil ?_
   refine WP.ret ?_
   refine retC_ok (resis_agg rfl th69 rfl hb18 rfl rfl rfl) rfl ?_ ?_ (by omega) (fun t ht => (hk18 t (by omega)).trans ((hfr t (by omega))))
   · rw [hgt, List.drop_eq_nil_of_le (by omega), getV]; exact (encV_eq u).symm
   · rw [hgt, List.drop_eq_nil_of_le (by omega), getV]; rfl
 ·
  exact ⟨by omega, hb2_3, hb3, (fun t ht => (hk3 t (by omega)).trans ((hk2 t (by omega)))), hm, rfl⟩
 ·
  refine Le.al ?_
  simp only [List.forall_mem_cons]
  exact ⟨rfl, rfl, rfl, rfl, by simp⟩

theorem s265 (v : Val) (p : List Str) (hsz : szV v ≤ 1099511627776) : PSpec Tryz.prog 265 [.d (encV v), .d (.sl 1 (p.map .str))] (.tup ((optL (getP v p)).map .d)) := (s265a v p hsz).leT (opt_le _)
theorem s179 (v : Val) (p : List Str) (hm : mayV v = true) : PSpec Tryz.prog 179 [.d (encV v), .d (.sl 1 (p.map .str))] (.tup ((optL (getV v p)).map .d)) := (s179a v p hm).leT (opt_le _)
end Go.Proofs.YtmielecljgfnaaaGreat.Abs

set_option linter.unusedVariables false
set_option linter.unusedSimpArgs false
set_option maxRecDepth 10000
namespace Go.Proofs.YtmielecljgfnaaaGreat.Abs
open Go
def idS : Str := [95, 105, 100]
def idK : List Str := [[95, 105, 100]]
/-- May a document be inserted by an id? -/
noncomputable def mayDocV (v id : Val) : Bool := decide (v.kind = 7 ∧ checkV v = 0 ∧ getV v idK = some id)
theorem check_may {v : Val} (h : checkV v = 0) : mayV v = true := by
  unfold checkV at h
  split at h
  · cases h
  · rename_i hm; simpa using hm
theorem path_id : pathV idK = true := by decide
theorem getP_id {v : Val} (h7 : v.kind = 7) (hc : checkV v = 0) : getP v idK = getV v idK := by
  unfold getP; rw [if_pos ⟨h7, check_may hc, path_id⟩]
theorem mayDoc_l {v id : Val} (hi : mayV id = true) : ((getP v idK).isSome && decide (checkV v = 0) && decide (compV ((getP v idK).getD zeroV) id = 0)) = mayDocV v id := by
  rw [Bool.eq_iff_iff]
  simp only [Bool.and_eq_true, decide_eq_true_eq, mayDocV]
  constructor
  · rintro ⟨⟨h1, h2⟩, h3⟩
    have h7 : v.kind = 7 := by
      unfold getP at h1
      split at h1
      · rename_i h; exact h.1
      · cases h1
    rw [getP_id h7 h2] at h1 h3
    obtain ⟨x, hx⟩ := Option.isSome_iff_exists.1 h1
    have hm := get_may idK v x (check_may h2) hx
    rw [hx] at h3
    have := comp_same hm hi
    simp only [Option.getD_some] at h3
    rw [decide_eq_true h3] at this
    exact ⟨h7, h2, by rw [hx, same_eq.1 this.symm]⟩
  · rintro ⟨h7, h2, h3⟩
    rw [getP_id h7 h2, h3]
    refine ⟨⟨rfl, h2⟩, ?_⟩
    have := comp_same hi hi
    rw [same_refl] at this
    simpa using this
theorem refDoc_l {v id : Val} (h7 : v.kind = 7) (hc : checkV v = 0) : ((getV v idK).isSome && sameV ((getV v idK).getD zeroV) id) = mayDocV v id := by
  unfold mayDocV
  rw [Bool.eq_iff_iff]
  simp only [Bool.and_eq_true, decide_eq_true_eq, same_eq, h7, hc, true_and]
  cases getV v idK with
  | none => simp
  | some y => simp
/-- May changes be an update's? -/
def mayDeltasV (l : List Dlt) : Bool := decide (checkD l = 0) && freeD l && l.all fun d => !decide (d.path[0]? = some idS)
theorem checkD_all {l : List Dlt} (h : checkD l = 0) : ∀ d ∈ l, mayD d = true := by
  unfold checkD at h
  split at h
  · cases h
  · split at h
    · rename_i h1; exact List.all_eq_true.1 h1
    · cases h
theorem mayD_path {d : Dlt} (h : mayD d = true) : 0 < d.path.length := by
  unfold mayD pathV at h
  simp only [Bool.and_eq_true, decide_eq_true_eq] at h
  omega

theorem fn222 : FnOkC Tryz.prog 222 9 [.cell 2 69, .tmp 3] (bodyOf Tryz.f222) := ⟨Tryz.f222, Tryz.func222, by kernel_rfl, by decide, by kernel_rfl, by kernel_rfl⟩
theorem s222 (v : Val) (hsz : szV v ≤ 1099511627776) : PSpec Tryz.prog 222 [.d (encV v)] (.tup ((optL (getP v idK)).map .d)) := by
 obtain ⟨kd, it, tx, xs, ns⟩ := v
 refine PSpec.of2C tabOk fn222 (by simp) fun o nk => ?_
 refine wr ?_
 refine u_step (g_box rfl fun o2 hb2 hk2 => ?_)
 refine u_step (g_alloc th69 rfl fun o3 hb3 hk3 => ?_)
 have hb2_3 := (hk3 _ (by omega)).trans hb2
 refine ua ?_
 refine u_nil ?_
 refine wr ?_
 refine ug th69 hb2_3 ?_
 refine u_step (o_bs rfl th60 rfl th9 rfl rfl (by decide) rfl (by decide) (by decide) ?_)
 refine u_step (o_pcall (s265 (.mk kd it tx xs ns) idK hsz) rfl ?_)
 refine ue ?_
 refine ue ?_
 refine u_step0 (g_sta rfl (congrArg SV.d (encV_eq _)) th69 rfl hb3 (by simp [valCells]) fun o5 hb5 hk5 => ?_)
 have hb2_5 := (hk5 _ (by omega)).trans hb2_3
 refine ua ?_
 refine u_nil ?_
 refine WP.ret ?_
 refine retC_ok (resis_agg rfl th69 rfl hb5 rfl rfl rfl) rfl ?_ ?_ (by omega) (fun t ht => (hk5 t (by omega)).trans ((hk3 t (by omega)).trans ((hk2 t (by omega)))))
 · exact (encV_eq _).symm
 · rfl

theorem fn174 : FnOk Tryz.prog 174 23 [4] (bodyOf Tryz.f174) := ⟨Tryz.f174, Tryz.func174, by kernel_rfl, by decide, by kernel_rfl, by kernel_rfl⟩
theorem s174 (v id : Val) (hr : rngV v) (hsz : szV v ≤ 1099511627776) (hi : mayV id = true) : PSpec Tryz.prog 174 [.d (encV v), .d (encV id)] (.d (.bool (mayDocV v id))) := by
 obtain ⟨kd, it, tx, xs, ns⟩ := v
 obtain ⟨kd2, it2, tx2, ys, ms⟩ := id
 refine PSpec.of fn174 (by simp) fun o nk => ?_
 refine wr ?_
 refine u_step (g_box rfl fun o2 hb2 hk2 => ?_)
 refine u_step (g_box rfl fun o3 hb3 hk3 => ?_)
 have hb2_3 := (hk3 _ (by omega)).trans hb2
 refine ua ?_
 refine u_nil ?_
 refine wr ?_
 refine ug th69 hb2_3 ?_
 refine u_step (o_pcall (s222 (.mk kd it tx xs ns) hsz) rfl ?_)
 refine u_step (o_moveV (v := .tup _) rfl ?_)
 refine ue ?_
 refine ue ?_
 refine u_step (g_alloc th69 rfl fun o5 hb5 hk5 => ?_)
 have hb2_5 := (hk5 _ (by omega)).trans hb2_3
 have hb3_5 := (hk5 _ (by omega)).trans hb3
 refine u_step0 (g_sta rfl (congrArg SV.d (encV_eq _)) th69 rfl hb5 (by simp [valCells]) fun o6 hb6 hk6 => ?_)
 have hb2_6 := (hk6 _ (by omega)).trans hb2_5
 have hb3_6 := (hk6 _ (by omega)).trans hb3_5
 refine ua ?_
 refine u_nil ?_
 refine wr ?_
 refine um ?_
 refine um ?_
 apply gT
 · rfl
 · intro hg
   exact pg th69 hb2_6
 apply gT
 · rfl
 · intro hg; try simp only [hg, ct]; try simp only [hg, ct, Bt]
   refine o_pcall (s164 (.mk kd it tx xs ns) hr hsz) rfl ⟨rfl, rfl, rfl⟩
 apply gT
 · rfl
 · intro hg; try simp only [hg, ct]; try simp only [hg, ct, Bt]
   exact pb
 refine uA ?_
 refine um ?_
 apply gT
 · rfl
 · intro hg
   exact pg th69 hb6
 apply gT
 · rfl
 · intro hg
   exact pg th69 hb3_6
 apply gT
 · rfl
 · intro hg; try simp only [hg, ct]; try simp only [hg, ct, Bt]
   refine o_pcall (pv2 (v := (getP (.mk kd it tx xs ns) idK).getD zeroV) (s192 _ (.mk kd2 it2 tx2 ys ms))) rfl ⟨rfl, rfl, rfl⟩
 refine uA ?_
 refine ua ?_
 refine u_nil ?_
 refine WP.ret ?_
 refine ret_ok rfl ?_ (by omega) (fun t ht => (hk6 t (by omega)).trans ((hk5 t (by omega)).trans ((hk3 t (by omega)).trans ((hk2 t (by omega))))))
 -- ret 1
 refine congrArg D.bool ?_
 exact mayDoc_l hi

theorem fn120 : FnOk Tryz.prog 120 27 [4] (bodyOf Tryz.f120) := ⟨Tryz.f120, Tryz.func120, by kernel_rfl, by decide, by kernel_rfl, by kernel_rfl⟩
theorem s120 (v id : Val) (hr : rngV v) (hsz : szV v ≤ 1099511627776) : PSpec Tryz.prog 120 [.d (encV v), .d (encV id)] (.d (.bool (mayDocV v id))) := by
 obtain ⟨kd, it, tx, xs, ns⟩ := v
 obtain ⟨kd2, it2, tx2, ys, ms⟩ := id
 refine PSpec.of fn120 (by simp) fun o nk => ?_
 refine wr ?_
 refine u_step (g_box rfl fun o2 hb2 hk2 => ?_)
 refine u_step (g_box rfl fun o3 hb3 hk3 => ?_)
 have hb2_3 := (hk3 _ (by omega)).trans hb2
 refine ua ?_
 refine u_nil ?_
 refine WP.seq fun K4 hK4 => ?_
 refine wr ?_
 refine uf th69 th3 hb2_3 ?_
 refine ul th3 hb2_3 ?_
 refine ub ?_
 refine um ?_
 apply gF
 · rfl
 · intro hg
   exact pg th69 hb2_3
 apply gF
 · rfl
 · intro hg; try simp only [hg, ct]; try simp only [hg, ct, Bt]
   refine o_pcall (s119 (.mk kd it tx xs ns) hr hsz) rfl ⟨rfl, rfl, rfl⟩
 apply gF
 · rfl
 · intro hg; try simp only [hg, ct]; try simp only [hg, ct, Bt]
   exact pb
 refine uO ?_
 refine u_nil ?_
 refine wc (fun hc6 => ?_) (fun hc6 => ?_) <;> try simp only [Q0, Q1, Q2, Q3, Q4, Q5, Q6, Q7, Q8, ge_iff_le, gt_iff_lt] at hc6
 ·
  refine wr ?_
  refine ua ?_
  refine u_nil ?_
  refine WP.ret ?_
  refine ret_ok rfl ?_ (by omega) (fun t ht => (hk3 t (by omega)).trans ((hk2 t (by omega))))
  -- ret 1
  clear hK4
  refine congrArg D.bool (decide_eq_false ?_).symm
  have hq := hc6
  rintro ⟨h1, h2, h3⟩
  have h1 : kd = 7 := h1
  subst h1; simp [h2] at hq
 ·
  have hq : kd = 7 ∧ checkV (.mk kd it tx xs ns) = 0 := by simpa using hc6
  refine WP.skip ?_
  refine hK4 _ ?_
  refine wr ?_
  refine ug th69 hb2_3 ?_
  refine u_step (o_bs rfl th60 rfl th9 rfl rfl (by decide) rfl (by decide) (by decide) ?_)
  refine u_step (o_pcall (s179 (.mk kd it tx xs ns) idK (check_may hq.2)) rfl ?_)
  refine u_step (o_moveV (v := .tup _) rfl ?_)
  refine ue ?_
  refine ue ?_
  refine u_step (g_alloc th69 rfl fun o9 hb9 hk9 => ?_)
  have hb2_9 := (hk9 _ (by omega)).trans hb2_3
  have hb3_9 := (hk9 _ (by omega)).trans hb3
  refine u_step0 (g_sta rfl (congrArg SV.d (encV_eq _)) th69 rfl hb9 (by simp [valCells]) fun o10 hb10 hk10 => ?_)
  have hb2_10 := (hk10 _ (by omega)).trans hb2_9
  have hb3_10 := (hk10 _ (by omega)).trans hb3_9
  refine ua ?_
  refine u_nil ?_
  refine wr ?_
  refine um ?_
  refine um ?_
  apply gT
  · rfl
  · intro hg
    exact pg th69 hb10
  apply gT
  · rfl
  · intro hg
    exact pg th69 hb3_10
  apply gT
  · rfl
  · intro hg; try simp only [hg, ct]; try simp only [hg, ct, Bt]
    refine o_pcall (pv2 (v := (getV (.mk kd it tx xs ns) idK).getD zeroV) (s96 _ (.mk kd2 it2 tx2 ys ms))) rfl ⟨rfl, rfl, rfl⟩
  refine uA ?_
  refine ua ?_
  refine u_nil ?_
  refine WP.ret ?_
  refine ret_ok rfl ?_ (by omega) (fun t ht => (hk10 t (by omega)).trans ((hk9 t (by omega)).trans ((hk3 t (by omega)).trans ((hk2 t (by omega))))))
  -- ret 2
  refine congrArg D.bool ?_
  exact refDoc_l (v := (.mk kd it tx xs ns)) hq.1 hq.2

theorem fn223 : FnOk Tryz.prog 223 8 [2] (bodyOf Tryz.f223) := ⟨Tryz.f223, Tryz.func223, by kernel_rfl, by decide, by kernel_rfl, by kernel_rfl⟩
theorem s223 (d : Dlt) (hp : 0 < d.path.length) : PSpec Tryz.prog 223 [.d (encD d)] (.d (.bool (decide (d.path[0]? = some idS)))) := by
 refine PSpec.of fn223 (by simp) fun o nk => ?_
 refine wr ?_
 refine u_step (g_box rfl fun o2 hb2 hk2 => ?_)
 refine ua ?_
 refine u_nil ?_
 refine wr ?_
 refine uf th183 th60 hb2 ?_
 refine ul th60 hb2 ?_
 refine u_step (o_ia_sl (a := D.str (d.path[0]'hp)) rfl rfl th60 rfl th9 rfl (by decide) (by simp [hp]) ?_)
 refine uL th9 ?_
 refine u_step (o_bin_str rfl (show _ = SV.d (.str [95, 105, 100]) from rfl) rfl ?_)
 refine ua ?_
 refine u_nil ?_
 refine WP.ret ?_
 refine ret_ok rfl ?_ (by omega) (fun t ht => (hk2 t (by omega)))
 -- ret 1
 refine congrArg D.bool ?_
 rw [Bool.eq_iff_iff]
 simp [idS, List.getElem?_eq_getElem hp]

theorem fn175 : FnOk Tryz.prog 175 17 [2] (bodyOf Tryz.f175) := ⟨Tryz.f175, Tryz.func175, by kernel_rfl, by decide, by kernel_rfl, by kernel_rfl⟩
theorem s175 (l : List Dlt) (hl : l.length ≤ 64 → ∀ d ∈ l, okD d) : PSpec Tryz.prog 175 [.d (.sl 8 (l.map encD))] (.d (.bool (mayDeltasV l))) := by
 refine PSpec.of fn175 (by simp) fun o nk => ?_
 refine wr ?_
 refine ua ?_
 refine u_nil ?_
 refine wr ?_
 refine u_step (o_assignV (v := .clo _ _ _) rfl ?_)
 refine u_nil ?_
 refine wr ?_
 refine um ?_
 refine u_step (o_pcall (s184 l hl) rfl ?_)
 refine ub ?_
 refine um ?_
 apply gT
 · rfl
 · intro hg
   exact pm
 apply gT
 · rfl
 · intro hg; try simp only [hg, ct]; try simp only [hg, ct, Bt]
   refine o_pcall (s224 l) rfl ⟨rfl, rfl, rfl⟩
 refine uA ?_
 refine um ?_
 apply gT
 · rfl
 · intro hg
   exact pm
 apply gT
 · rfl
 · intro hg
   refine o_moveV (v := .clo _ _ _) rfl ⟨rfl, rfl, rfl⟩
 apply gT
 · rfl
 · intro hg; try simp only [hg, ct]; try simp only [hg, ct, Bt]
   have hg2 := hg; try simp only [Q0, Q1, Q2, Q3, Q4, Q5, Q6, Q9, Qa, Qb, Qc, Qd] at hg2
   refine o_scall (s225 l 223 [] [] (fun d => decide (d.path[0]? = some idS)) (fun x hx => s223 x (mayD_path (checkD_all hg2.1 x hx)) _ _)) rfl ⟨rfl, rfl, rfl⟩
 apply gT
 · rfl
 · intro hg; try simp only [hg, ct]; try simp only [hg, ct, Bt]
   exact pN
 refine uA ?_
 refine ua ?_
 refine u_nil ?_
 refine WP.ret ?_
 refine ret_ok rfl ?_ (by omega) (fun _ _ => rfl)
 -- ret 1
 refine congrArg D.bool ?_
 simp only [mayDeltasV]
 rw [show (l.all fun d => !decide (d.path[0]? = some idS)) = !(l.any fun d => decide (d.path[0]? = some idS)) from by rw [List.all_eq_not_any_not]; simp]
 rfl

theorem fn121 : FnOk Tryz.prog 121 26 [2] (bodyOf Tryz.f121) := ⟨Tryz.f121, Tryz.func121, by kernel_rfl, by decide, by kernel_rfl, by kernel_rfl⟩
theorem s121 (l : List Dlt) (hl : l.length ≤ 64 → ∀ d ∈ l, okD d) : PSpec Tryz.prog 121 [.d (.sl 8 (l.map encD))] (.d (.bool (mayDeltasV l))) := by
 refine PSpec.bd fun hbd => ?_
 have hx : l.length ≤ 9223372036854775807 := by simpa using hbd.1.1
 refine PSpec.of fn121 (by simp) fun o nk => ?_
 refine wr ?_
 refine ua ?_
 refine u_nil ?_
 refine WP.seq fun K2 hK2 => ?_
 refine wr ?_
 refine um ?_
 refine u_step (o_pcall (s180 l hl) rfl ?_)
 refine ub ?_
 refine um ?_
 apply gF
 · rfl
 · intro hg
   exact pm
 apply gF
 · rfl
 · intro hg; try simp only [hg, ct]; try simp only [hg, ct, Bt]
   refine o_pcall (s181 l) rfl ⟨rfl, rfl, rfl⟩
 apply gF
 · rfl
 · intro hg; try simp only [hg, ct]; try simp only [hg, ct, Bt]
   exact pN
 refine uO ?_
 refine u_nil ?_
 refine wc (fun hc4 => ?_) (fun hc4 => ?_) <;> try simp only [Q0, Q1, Q2, Q3, Q4, Q5, Q6, Q7, Q8, ge_iff_le, gt_iff_lt] at hc4
 ·
  refine wr ?_
  refine ua ?_
  refine u_nil ?_
  refine WP.ret ?_
  refine ret_ok rfl ?_ (by omega) (fun _ _ => rfl)
  -- ret 1
  refine congrArg D.bool ?_
  have hq := hc4
  simp only [mayDeltasV]
  try simp only [Bool.or_eq_true, Bool.not_eq_true', bne_iff_ne, ne_eq] at hq
  rcases hq with h | h
  · simp [h]
  · simp [h]
 ·
  have hq : checkD l = 0 ∧ freeD l = true := by simpa using hc4
  refine WP.skip ?_
  refine hK2 _ ?_
  refine WP.seq fun K6 hK6 => ?_
  refine wr ?_
  refine ua ?_
  refine u_nil ?_
  refine WP.block ?_
  refine WP.loopL (ι := Nat) (fun i => ⟨al [(0, .d (.sl 8 (l.map encD))), (3, .d (.int .i64 i))], o, nk⟩) (fun i => i ≤ l.length ∧ (l.take i).all (fun d => !decide (d.path[0]? = some idS)) = true) (fun i => l.length - i) (fun i hA => ?_) 0 ?_ ?_
  ·
   obtain ⟨hle_i, hin_i⟩ := hA
   refine WP.seq fun K8 hK8 => ?_
   refine wr ?_
   refine um ?_
   refine um ?_
   refine un th70 ?_
   refine ub ?_
   refine u_nil ?_
   refine wc (fun hc10 => ?_) (fun hc10 => ?_) <;> try simp only [Q0, Q1, Q2, Q3, Q4, Q5, Q6, Q7, Q8, ge_iff_le, gt_iff_lt] at hc10
   ·
    have hp := mayD_path (checkD_all hq.1 l[i] (List.getElem_mem _))
    refine WP.skip ?_
    refine hK8 _ ?_
    refine WP.seq fun K11 hK11 => ?_
    refine WP.block ?_
    refine wr ?_
    refine um ?_
    refine um ?_
    first | refine u_step (o_ia_map rfl rfl th70 rfl th183 rfl (by omega) ?_) | refine u_step (o_ia_vs rfl rfl th70 rfl th183 rfl (by omega) ?_)
    refine uF th183 th60 ?_
    refine uL th60 ?_
    refine u_step (o_ia_sl (a := D.str (l[i].path[0]'hp)) rfl rfl th60 rfl th9 rfl (by decide) (by simp [hp]) ?_)
    refine uL th9 ?_
    refine u_step (o_bin_str rfl (show _ = SV.d (.str [95, 105, 100]) from rfl) rfl ?_)
    refine u_nil ?_
    refine wc (fun hc13 => ?_) (fun hc13 => ?_) <;> try simp only [Q0, Q1, Q2, Q3, Q4, Q5, Q6, Q7, Q8, ge_iff_le, gt_iff_lt] at hc13
    ·
     refine wr ?_
     refine ua ?_
     refine u_nil ?_
     refine WP.ret ?_
     refine ret_ok rfl ?_ (by omega) (fun _ _ => rfl)
     -- ret 2
     refine congrArg D.bool ?_
     have hq2 : l[i].path[0]'hp = [95, 105, 100] := by simpa using hc13
     simp only [mayDeltasV, hq.1, hq.2]
     rw [all_false (p := fun d : Dlt => !decide (d.path[0]? = some idS)) (by omega : i < l.length) (by simp [idS, List.getElem?_eq_getElem hp, hq2])]
     simp
    ·
     refine WP.skip ?_
     refine hK11 _ ?_
     refine WP.reg tabOk rfl ?_
     refine um ?_
     refine ub ?_
     refine ua ?_
     refine u_nil ?_
     -- back
     refine ⟨i + 1, ⟨by omega, ?_⟩, by omega, ?_⟩
     · rw [all_snoc (by omega), hin_i]
       have hq2 : ¬ (l[i].path[0]'hp = [95, 105, 100]) := by simpa using hc13
       simp [idS, List.getElem?_eq_getElem hp, hq2]
     · refine Le.al ?_
       simp only [List.forall_mem_cons]
       exact ⟨rfl, cnt (by omega), by simp⟩
   ·
    refine WP.exit ?_
    refine hK6 _ ?_
    refine wr ?_
    refine ua ?_
    refine u_nil ?_
    refine WP.ret ?_
    refine ret_ok rfl ?_ (by omega) (fun _ _ => rfl)
    -- ret 3
    refine congrArg D.bool ?_
    simp only [mayDeltasV, hq.1, hq.2]
    rw [all_true (by omega) hin_i]
    simp
  ·
   simp
  ·
   refine Le.al ?_
   simp only [List.forall_mem_cons]
   exact ⟨rfl, rfl, by simp⟩

end Go.Proofs.YtmielecljgfnaaaGreat.Abs

set_option linter.unusedVariables false
set_option linter.unusedSimpArgs false
set_option maxRecDepth 10000
namespace Go.Proofs.YtmielecljgfnaaaGreat.Abs
open Go
theorem o_ia_ar {P : Program} {Θ : Tab} {K : SV → (Nat → Option AO) → Nat → Prop} {sl : Nat → SV} {o : Nat → Option AO} {nk : Nat} {x ix : Operand} {t e : Nat} {i j : TI} {q g c : Nat} {cs : List SV} {k : IntKind} {m : Int} (hx : ev sl x = .loc q g) (hy : ev sl ix = .d (.int k m)) (hi : Θ t = some i) (hk : i.k = .arr c e) (hj : Θ e = some j) (ho : o q = some (.box cs)) (h0 : 0 ≤ m) (hlt : m.toNat < c) (h : K (.loc q (g + m.toNat * j.sz)) o nk) : vOp P Θ (.indexAddr t x ix) ⟨sl, o, nk⟩ K := o_ia_arr hx hy hi hk hj h0 hlt ho h
def setA : Nat → List D
  | 0 => List.replicate 256 (.bool false)
  | 1 => (List.replicate 256 (.bool false)).set 36 (.bool true)
  | _ => ((List.replicate 256 (.bool false)).set 36 (.bool true)).set 0 (.bool true)
theorem setA_at {c : Nat} (h : c < 256) : ((setA 2).map SV.d)[c]? = some (.d (.bool (decide (c = 36 ∨ c = 0)))) := by
  simp only [setA, List.getElem?_map, List.getElem?_set, List.getElem?_replicate, List.length_set, List.length_replicate]
  by_cases h0 : c = 0
  · subst h0; simp
  · by_cases h36 : c = 36
    · subst h36; simp
    · have a : ¬ 0 = c := by omega
      have b : ¬ 36 = c := by omega
      simp [h, h0, h36, a, b]
def validR (c : Int) : Bool := decide (0 ≤ c ∧ c < 55296) || decide (57343 < c ∧ c ≤ 1114111)
theorem enc_last {c : Int} (h : 128 ≤ c) (hv : validR c = true) : ∃ m, (Utf8.encode c).data.toList.length = m + 1 ∧ 1 ≤ m ∧ 128 ≤ bAt (Utf8.encode c).data.toList m := by
  have h4 := encode_len4 c
  have hv' : Utf8.valid c = true := by
    simp only [validR, Bool.or_eq_true, decide_eq_true_eq] at hv
    simp only [Utf8.valid, Bool.or_eq_true, Bool.and_eq_true, decide_eq_true_eq]
    rcases hv with ⟨h1, h2⟩ | ⟨h1, h2⟩
    · exact .inl ⟨h1, h2⟩
    · exact .inr ⟨by omega, h2⟩
  have hb : ∀ n : Nat, 128 ≤ (UInt8.ofNat (128 + n % 64)).toNat := fun n => by
    rw [UInt8.toNat_ofNat']; omega
  unfold Utf8.encode
  rw [if_pos hv']
  simp only
  split
  · omega
  · split
    · refine ⟨1, rfl, by omega, ?_⟩
      have := hb c.toNat
      show (128 : Int) ≤ ((UInt8.ofNat (128 + c.toNat % 64)).toNat : Int)
      omega
    · split
      · refine ⟨2, rfl, by omega, ?_⟩
        have := hb c.toNat
        show (128 : Int) ≤ ((UInt8.ofNat (128 + c.toNat % 64)).toNat : Int)
        omega
      · refine ⟨3, rfl, by omega, ?_⟩
        have := hb c.toNat
        show (128 : Int) ≤ ((UInt8.ofNat (128 + c.toNat % 64)).toNat : Int)
        omega
def s2 : Str := [36, 0]
/-- Where a rune stands in the two signs that no name has. -/
def runeI (c : Int) : Int := if c = 36 then 0 else if c = 0 then 1 else -1
theorem idx2 {c : Int} (h0 : 0 ≤ c) (h : c < 128) : Go.Lib.indexByte [36, 0] (IntKind.u8.wrap c).toNat.toUInt8 = runeI c := by
  obtain ⟨n, rfl⟩ := Int.eq_ofNat_of_zero_le h0
  have e : (IntKind.u8.wrap (n : Int)).toNat = n := by rw [wrap_u8]; omega
  rw [e]
  have h1 : ∀ m : Nat, m < 128 → Go.Lib.indexByte [36, 0] m.toUInt8 = runeI (m : Int) := by decide
  exact h1 n (by omega)
theorem dec2 {i : Nat} (h : i < 2) : (Utf8.decode ⟨([36, 0] : Str).toArray⟩ i).1 < 128 := by
  rcases (show i = 0 ∨ i = 1 by omega) with rfl | rfl <;> decide

theorem fn284 : FnOk Tryz.prog 284 8 [4] (bodyOf Tryz.f284) := ⟨Tryz.f284, Tryz.func284, by kernel_rfl, by decide, by kernel_rfl, by kernel_rfl⟩
theorem s284 (s : Str) (c : Int) : PSpec Tryz.prog 284 [.d (.str s), .d (.int .u8 c)] (.d (.int .i64 (Go.Lib.indexByte s c.toNat.toUInt8))) := by
 refine PSpec.of fn284 (by simp) fun o nk => ?_
 refine wr ?_
 refine ua ?_
 refine u_nil ?_
 refine wr ?_
 refine um ?_
 refine um ?_
 refine u_step (o_pcall (s303 _ _) rfl ?_)
 refine ua ?_
 refine u_nil ?_
 refine WP.ret ?_
 refine ret_ok rfl ?_ (by omega) (fun _ _ => rfl)
 -- ret 1
 rfl

theorem fn285 : FnOk Tryz.prog 285 17 [2] (bodyOf Tryz.f285) := ⟨Tryz.f285, Tryz.func285, by kernel_rfl, by decide, by kernel_rfl, by kernel_rfl⟩
theorem s285 (c : Int) : PSpec Tryz.prog 285 [.d (.int .i32 c)] (.d (.bool (validR c))) := by
 refine PSpec.of fn285 (by simp) fun o nk => ?_
 refine wr ?_
 refine ua ?_
 refine u_nil ?_
 refine WP.seq fun K2 hK2 => ?_
 refine WP.block ?_
 refine wr ?_
 refine um ?_
 refine ub ?_
 refine um ?_
 apply gT
 · rfl
 · intro hg
   exact pm
 apply gT
 · rfl
 · intro hg; try simp only [hg, ct]; try simp only [hg, ct, Bt]
   exact pb
 refine uA ?_
 refine ua ?_
 refine u_nil ?_
 refine wc (fun hc4 => ?_) (fun hc4 => ?_) <;> try simp only [Q0, Q1, Q2, Q3, Q4, Q5, Q6, Q7, Q8, ge_iff_le, gt_iff_lt] at hc4
 ·
  refine wr ?_
  refine ua ?_
  refine u_nil ?_
  refine WP.ret ?_
  refine ret_ok rfl ?_ (by omega) (fun _ _ => rfl)
  -- ret 1
  refine congrArg D.bool ?_
  simp only [validR]
  grind
 ·
  refine wr ?_
  refine um ?_
  refine ub ?_
  refine um ?_
  apply gT
  · rfl
  · intro hg
    exact pm
  apply gT
  · rfl
  · intro hg; try simp only [hg, ct]; try simp only [hg, ct, Bt]
    exact pb
  refine uA ?_
  refine ua ?_
  refine u_nil ?_
  refine wc (fun hc7 => ?_) (fun hc7 => ?_) <;> try simp only [Q0, Q1, Q2, Q3, Q4, Q5, Q6, Q7, Q8, ge_iff_le, gt_iff_lt] at hc7
  ·
   refine wr ?_
   refine ua ?_
   refine u_nil ?_
   refine WP.ret ?_
   refine ret_ok rfl ?_ (by omega) (fun _ _ => rfl)
   -- ret 2
   refine congrArg D.bool ?_
   simp only [validR]
   grind
  ·
   refine WP.skip ?_
   refine hK2 _ ?_
   refine wr ?_
   refine ua ?_
   refine u_nil ?_
   refine WP.ret ?_
   refine ret_ok rfl ?_ (by omega) (fun _ _ => rfl)
   -- ret 3
   refine congrArg D.bool ?_
   simp only [validR]
   grind

theorem fn262 : FnOk Tryz.prog 262 5 [2] (bodyOf Tryz.f262) := ⟨Tryz.f262, Tryz.func262, by kernel_rfl, by decide, by kernel_rfl, by kernel_rfl⟩
theorem s262 (n : Int) : PSpec Tryz.prog 262 [.d (.int .i64 n)] (.d (.bool (decide (8 < n)))) := by
 refine PSpec.of fn262 (by simp) fun o nk => ?_
 refine wr ?_
 refine ua ?_
 refine u_nil ?_
 refine wr ?_
 refine um ?_
 refine ub ?_
 refine ua ?_
 refine u_nil ?_
 refine WP.ret ?_
 refine ret_ok rfl ?_ (by omega) (fun _ _ => rfl)
 -- ret 1
 rfl

theorem fn263 : FnOkC Tryz.prog 263 21 [.cell 2 266, .tmp 3] (bodyOf Tryz.f263) := ⟨Tryz.f263, Tryz.func263, by kernel_rfl, by decide, by kernel_rfl, by kernel_rfl⟩
theorem s263  : PSpec Tryz.prog 263 [.d (.str [36, 0])] (.tup (([.agg (setA 2), .bool true]).map .d)) := by
 refine PSpec.of2C tabOk fn263 (by simp) fun o nk => ?_
 refine wr ?_
 refine u_step (g_alloc th266 rfl fun o2 hb2 hk2 => ?_)
 refine ua ?_
 refine u_nil ?_
 refine WP.seq fun K3 hK3 => ?_
 refine wr ?_
 refine ua ?_
 refine u_nil ?_
 refine WP.block ?_
 refine WP.loopL (ι := Nat × (Nat → Option AO)) (fun ⟨i, o2⟩ => ⟨al [(0, .d (.str [36, 0])), (2, .loc nk 0), (4, .d (.int .i64 i))], o2, (nk + 1)⟩) (fun ⟨i, o2⟩ => i ≤ 2 ∧ o2 nk = some (.box ((setA i).map .d)) ∧ ∀ t, t < nk → o2 t = o t) (fun ⟨i, o2⟩ => 2 - i) (fun ⟨i, o2⟩ hA => ?_) ⟨0, o2⟩ ?_ ?_
 ·
  obtain ⟨hle, hob, hfr⟩ := hA
  refine WP.seq fun K5 hK5 => ?_
  refine wr ?_
  refine um ?_
  refine um ?_
  refine u_step (o_len_str rfl th9 rfl ?_)
  refine ub ?_
  refine u_nil ?_
  refine wc (fun hc7 => ?_) (fun hc7 => ?_) <;> try simp only [Q0, Q1, Q2, Q3, Q4, Q5, Q6, Q7, Q8, ge_iff_le, gt_iff_lt] at hc7
  ·
   have hi : i = 0 ∨ i = 1 := by simp at hc7; omega
   refine WP.skip ?_
   refine hK5 _ ?_
   refine WP.seq fun K8 hK8 => ?_
   refine WP.block ?_
   refine wr ?_
   refine um ?_
   refine um ?_
   refine u_step (o_ix rfl rfl th9 rfl ?_ ?_ ?_)
   · omega
   · rcases hi with rfl | rfl <;> decide
   refine ua ?_
   refine u_nil ?_
   refine WP.seq fun K10 hK10 => ?_
   refine wr ?_
   refine um ?_
   refine ub ?_
   refine u_nil ?_
   refine wc (fun hc12 => ?_) (fun hc12 => ?_) <;> try simp only [Q0, Q1, Q2, Q3, Q4, Q5, Q6, Q7, Q8, ge_iff_le, gt_iff_lt] at hc12
   ·
    exfalso
    rcases hi with rfl | rfl <;> exact absurd hc12 (by decide)
   ·
    refine WP.skip ?_
    refine hK10 _ ?_
    refine WP.reg tabOk rfl ?_
    refine um ?_
    refine u_step (o_ia_ar rfl rfl th266 rfl th4 hob ?_ ?_ ?_)
    · rcases hi with rfl | rfl <;> decide
    · rcases hi with rfl | rfl <;> decide
    refine u_step0 (g_st rfl rfl rfl th4 rfl hob (by rcases hi with rfl | rfl <;> decide) fun o13 hb13 hk13 => ?_)
    refine u_nil ?_
    refine hK8 _ ?_
    refine WP.reg tabOk rfl ?_
    refine um ?_
    refine ub ?_
    refine ua ?_
    refine u_nil ?_
    -- back
    refine ⟨⟨i + 1, o13⟩, ⟨by omega, ?_, (fun t ht => (hk13 t (by omega)).trans ((hfr t (by omega))))⟩, by simp only; omega, ?_⟩
    · rcases hi with rfl | rfl
      · exact (hb13).trans (by kernel_rfl)
      · exact (hb13).trans (by kernel_rfl)
    · refine Le.al ?_
      simp only [List.forall_mem_cons]
      exact ⟨rfl, rfl, cnt (by omega), by simp⟩
  ·
   have hi2 : i = 2 := by simp at hc7; omega
   refine WP.exit ?_
   refine hK3 _ ?_
   subst hi2
   refine wr ?_
   refine ug th266 hob ?_
   refine u_step0 (g_sta rfl rfl th266 rfl hob (by simp [setA]) fun o15 hb15 hk15 => ?_)
   refine ua ?_
   refine u_nil ?_
   refine WP.ret ?_
   refine retC_ok (resis_agg rfl th266 rfl hb15 rfl rfl rfl) rfl ?_ ?_ (by omega) (fun t ht => (hk15 t (by omega)).trans ((hfr t (by omega))))
   · rfl
   · rfl
 ·
  exact ⟨by omega, hb2, (fun t ht => (hk2 t (by omega)))⟩
 ·
  refine Le.al ?_
  simp only [List.forall_mem_cons]
  exact ⟨rfl, rfl, rfl, by simp⟩

end Go.Proofs.YtmielecljgfnaaaGreat.Abs

set_option linter.unusedVariables false
set_option linter.unusedSimpArgs false
set_option maxRecDepth 10000
namespace Go.Proofs.YtmielecljgfnaaaGreat.Abs
open Go
theorem o_nc {P : Program} {Θ : Tab} {K : SV → (Nat → Option AO) → Nat → Prop} {sl : Nat → SV} {o : Nat → Option AO} {nk : Nat} {x : Operand} {q g : Nat} {cs : List SV} (hx : ev sl x = .loc q g) (ho : o q = some (.box cs)) (h : K (.loc q g) o nk) : vOp P Θ (.nilCheck x) ⟨sl, o, nk⟩ K := by
  refine Or.inl ⟨?_, ?_⟩
  · show ncOp o (ev sl x)
    rw [hx]; exact ⟨cs, ho⟩
  · show K (ev sl x) o nk
    rw [hx]; exact h
theorem setA_at2 {c : Nat} (h : c < 256) : ((setA 2).map SV.d)[0 + ((c : Int)).toNat * 1]? = some (.d (.bool (decide (c = 36 ∨ c = 0)))) := by
  rw [Int.toNat_natCast, Nat.zero_add, Nat.mul_one]; exact setA_at h
theorem dec_bd (s : ByteArray) (i : Nat) : (Utf8.decode s i).1 ≤ 1114111 := by
  have hb : ∀ k, (s.get! (i + k)).toNat < 256 := fun k => (s.get! (i + k)).toNat_lt
  have h0 := hb 0; have h1 := hb 1; have h2 := hb 2; have h3 := hb 3
  have hv : ∀ c : Nat, Utf8.valid (c : Int) = true → c ≤ 1114111 := fun c h => by
    simp only [Utf8.valid, Bool.or_eq_true, Bool.and_eq_true, decide_eq_true_eq] at h
    omega
  simp only [Utf8.decode]
  repeat' split
  all_goals simp only [Utf8.runeError, Bool.and_eq_true, decide_eq_true_eq] at *
  all_goals first
    | omega
    | (rename_i h; exact hv _ h.2)
theorem dec_skip (s : ByteArray) (i : Nat) (h : i < s.size) : 1 ≤ (Utf8.decode s i).2 ∧ i + (Utf8.decode s i).2 ≤ s.size ∧ ∀ k, 1 ≤ k → k < (Utf8.decode s i).2 → 128 ≤ (s.get! (i + k)).toNat := by
  simp only [Utf8.decode]
  repeat' split
  all_goals simp only [Bool.and_eq_true, decide_eq_true_eq, beq_iff_eq] at *
  all_goals refine ⟨by omega, by omega, fun k hk1 hk2 => ?_⟩
  all_goals
    by_cases e1 : k = 1
    · subst e1; omega
    · by_cases e2 : k = 2
      · subst e2; omega
      · by_cases e3 : k = 3
        · subst e3; omega
        · omega
/-- A sign that no name has. -/
def badC (c : UInt8) : Bool := decide (c = 36 ∨ c = 0)
theorem badC_nat (c : UInt8) : badC c = decide (c.toNat = 36 ∨ c.toNat = 0) := by
  unfold badC
  rw [Bool.eq_iff_iff]
  simp only [decide_eq_true_eq]
  constructor
  · rintro (rfl | rfl)
    · exact .inl rfl
    · exact .inr rfl
  · rintro (h | h)
    · exact .inl ((toNat_eq (n := 36) (by omega)).1 (by omega))
    · exact .inr ((toNat_eq (n := 0) (by omega)).1 (by omega))
def anyI (s : Str) : Int := firstI badC s
theorem get_bang {s : Str} {j : Nat} (h : j < s.length) : ((⟨s.toArray⟩ : ByteArray).get! j) = s[j]'h := by
  show (s.toArray[j]!) = _
  simp [h]
theorem dec_at {s : Str} {i : Nat} (h : i < s.length) : 1 ≤ (Utf8.decode ⟨s.toArray⟩ i).2 ∧ i + (Utf8.decode ⟨s.toArray⟩ i).2 ≤ s.length ∧
    (∀ (j : Nat) (hj : j < s.length), i < j → j < i + (Utf8.decode ⟨s.toArray⟩ i).2 → badC (s[j]'hj) = false) ∧ decide (0 ≤ runeI ((Utf8.decode ⟨s.toArray⟩ i).1 : Nat)) = badC (s[i]'h) := by
  have hs : i < (⟨s.toArray⟩ : ByteArray).size := by simpa [ByteArray.size] using h
  obtain ⟨h1, h2, h3⟩ := dec_skip ⟨s.toArray⟩ i hs
  have hsz : (⟨s.toArray⟩ : ByteArray).size = s.length := by simp [ByteArray.size]
  refine ⟨h1, by omega, fun j hj hij hj2 => ?_, ?_⟩
  · have := h3 (j - i) (by omega) (by omega)
    rw [show i + (j - i) = j by omega, get_bang hj] at this
    rw [badC_nat, decide_eq_false_iff_not]
    omega
  · have hg : (⟨s.toArray⟩ : ByteArray)[i]'hs = s[i]'h := rfl
    rw [badC_nat]
    by_cases ha : (s[i]'h).toNat < 128
    · have := decode_ascii ⟨s.toArray⟩ i hs (by rw [hg]; exact ha)
      rw [this, hg]
      unfold runeI
      rw [Bool.eq_iff_iff]
      simp only [decide_eq_true_eq]
      split
      · omega
      · split <;> omega
    · have := (decode_high ⟨s.toArray⟩ i hs (by rw [hg]; omega)).1
      unfold runeI
      rw [Bool.eq_iff_iff]
      simp only [decide_eq_true_eq]
      rw [if_neg (by omega), if_neg (by omega)]
      omega

theorem fn264 : FnOk Tryz.prog 264 10 [4] (bodyOf Tryz.f264) := ⟨Tryz.f264, Tryz.func264, by kernel_rfl, by decide, by kernel_rfl, by kernel_rfl⟩
theorem s264 {o : Nat → Option AO} {nk k c : Nat} (hkc : o k = some (.box ((setA 2).map .d))) (hkl : k < nk) (hc : c < 256) : Spec Tryz.prog 264 [.loc k 0, .d (.int .u8 (c : Int))] o nk (fun r' o' nk' => r' = .d (.bool (decide (c = 36 ∨ c = 0))) ∧ o' = o ∧ nk' = nk) := by
 refine Spec.pure (fun _ => trivial) rfl (Spec.of_body fn264 (by simp) ?_)
 refine wr ?_
 refine ua ?_
 refine u_nil ?_
 refine wr ?_
 refine u_step (o_moveV (v := .loc _ _) rfl ?_)
 refine um ?_
 refine u_step (o_nc rfl hkc ?_)
 refine u_step (o_ia_ar rfl rfl th266 rfl th4 hkc ?_ ?_ ?_)
 · omega
 · omega
 refine u_step (o_ld_loc rfl th4 rfl hkc (setA_at2 hc) ?_)
 refine ua ?_
 refine u_nil ?_
 refine WP.ret ?_
 refine ret_ok rfl ?_ (by omega) (fun _ _ => rfl)
 -- ret 1
 rfl

theorem fn261 : FnOk Tryz.prog 261 187 [4] (bodyOf Tryz.f261) := ⟨Tryz.f261, Tryz.func261, by kernel_rfl, by decide, by kernel_rfl, by kernel_rfl⟩
theorem s261 (c : Int) (h1 : 0 ≤ c) (h2 : c ≤ 1114111) : PSpec Tryz.prog 261 [.d (.str [36, 0]), .d (.int .i32 c)] (.d (.int .i64 (runeI c))) := by
 refine PSpec.of fn261 (by simp) fun o nk => ?_
 refine wr ?_
 refine ua ?_
 refine u_nil ?_
 refine WP.block ?_
 refine wr ?_
 refine um ?_
 refine ub ?_
 refine um ?_
 apply gT
 · rfl
 · intro hg
   exact pm
 apply gT
 · rfl
 · intro hg; try simp only [hg, ct]; try simp only [hg, ct, Bt]
   exact pb
 refine uA ?_
 refine ua ?_
 refine u_nil ?_
 refine wc (fun hc3 => ?_) (fun hc3 => ?_) <;> try simp only [Q0, Q1, Q2, Q3, Q4, Q5, Q6, Q7, Q8, ge_iff_le, gt_iff_lt] at hc3
 ·
  have h128 : c < 128 := by simp at hc3; omega
  refine wr ?_
  refine um ?_
  refine um ?_
  refine uc th21 th5 ?_
  refine u_step (o_pcall (s284 _ _) rfl ?_)
  refine ua ?_
  refine u_nil ?_
  refine WP.ret ?_
  refine ret_ok rfl ?_ (by omega) (fun _ _ => rfl)
  -- ret 1
  skip
  refine congrArg (D.int .i64) ?_
  exact idx2 h1 h128
 ·
  have hc2 : 128 ≤ c := by have := hc3; simp at this; omega
  refine wr ?_
  refine um ?_
  refine ub ?_
  refine ua ?_
  refine u_nil ?_
  refine wc (fun hc6 => ?_) (fun hc6 => ?_) <;> try simp only [Q0, Q1, Q2, Q3, Q4, Q5, Q6, Q7, Q8, ge_iff_le, gt_iff_lt] at hc6
  ·
   have hce : c = 65533 := by simpa using hc6
   refine WP.seq fun K7 hK7 => ?_
   refine wr ?_
   refine um ?_
   refine u_step (g_range rfl th9 rfl fun o9 hb9 hk9 => ?_)
   refine u_nil ?_
   refine WP.block ?_
   refine WP.loopL (ι := Nat × (Nat → Option AO)) (fun ⟨i, o2⟩ => ⟨al [(175, .raw nk)], o2, (nk + 1)⟩) (fun ⟨i, o2⟩ => i ≤ 2 ∧ o2 nk = some (.raw (itOb [36, 0] i)) ∧ ∀ t, t < nk → o2 t = o t) (fun ⟨i, o2⟩ => 2 - i) (fun ⟨i, o2⟩ hA => ?_) ⟨0, o9⟩ ?_ ?_
   ·
    obtain ⟨hle, hob, hfr⟩ := hA
    refine wr ?_
    refine u_step (g_next rfl hob (fun hp11 o11 hb11 hk11 => ?_) (fun hp11 => ?_))
    ·
     have hi : i = 0 ∨ i = 1 := by have := hp11; simp at this; omega
     have hdd := dec2 (i := i) (by omega)
     refine ue ?_
     refine u_nil ?_
     refine WP.seq fun K12 hK12 => ?_
     refine WP.cond rfl (fun hc13 => ?_) (fun hc13 => by cases hc13)
     refine WP.skip ?_
     refine hK12 _ ?_
     refine WP.block ?_
     refine wr ?_
     refine ue ?_
     refine ue ?_
     refine ua ?_
     refine ua ?_
     refine u_nil ?_
     refine wr ?_
     refine um ?_
     refine ub ?_
     refine u_nil ?_
     refine wc (fun hc16 => ?_) (fun hc16 => ?_) <;> try simp only [Q0, Q1, Q2, Q3, Q4, Q5, Q6, Q7, Q8, ge_iff_le, gt_iff_lt] at hc16
     ·
      refine wr ?_
      refine um ?_
      refine ua ?_
      refine u_nil ?_
      refine WP.ret ?_
      refine ret_ok rfl ?_ (by omega) (fun t ht => (hk11 t (by omega)).trans ((hfr t (by omega))))
      -- ret 2
      exfalso
      have hq := hc16
      simp at hq
      omega
     ·
      refine WP.skip ?_
      -- back
      refine ⟨⟨i + 1, o11⟩, ⟨by omega, ?_, (fun t ht => (hk11 t (by omega)).trans ((hfr t (by omega))))⟩, by simp only; omega, ?_⟩
      · have hft := hb11
        rcases hi with rfl | rfl
        · exact hft
        · exact hft
      · refine Le.al ?_
        simp only [List.forall_mem_cons]
        exact ⟨rfl, by simp⟩
    ·
     refine ue ?_
     refine u_nil ?_
     refine WP.seq fun K18 hK18 => ?_
     refine WP.cond rfl (fun hc19 => by cases hc19) (fun hc19 => ?_)
     refine WP.exit ?_
     refine hK7 _ ?_
     refine wr ?_
     refine ua ?_
     refine u_nil ?_
     refine WP.ret ?_
     refine ret_ok rfl ?_ (by omega) (fun t ht => (hfr t (by omega)))
     -- ret 3
     refine congrArg (D.int .i64) ?_
     rw [hce]; rfl
   ·
    exact ⟨by omega, hb9, (fun t ht => (hk9 t (by omega)))⟩
   ·
    refine Le.al ?_
    simp only [List.forall_mem_cons]
    exact ⟨rfl, by simp⟩
  ·
   refine wr ?_
   refine um ?_
   refine u_step (o_pcall (s285 _) rfl ?_)
   refine uN ?_
   refine ua ?_
   refine u_nil ?_
   refine wc (fun hc22 => ?_) (fun hc22 => ?_) <;> try simp only [Q0, Q1, Q2, Q3, Q4, Q5, Q6, Q7, Q8, ge_iff_le, gt_iff_lt] at hc22
   ·
    refine wr ?_
    refine ua ?_
    refine u_nil ?_
    refine WP.ret ?_
    refine ret_ok rfl ?_ (by omega) (fun _ _ => rfl)
    -- ret 4
    refine congrArg (D.int .i64) ?_
    unfold runeI
    rw [if_neg (by omega), if_neg (by omega)]
   ·
    obtain ⟨m, hm, hm1, hml⟩ := enc_last hc2 (by simpa using hc22)
    refine WP.scope ?_
    refine wr ?_
    refine um ?_
    refine u_step (o_cv_rune rfl th21 rfl th9 rfl ?_)
    refine ua ?_
    refine u_nil ?_
    refine wr ?_
    refine um ?_
    refine u_step (o_len_str rfl th9 rfl ?_)
    refine ub ?_
    refine ua ?_
    refine u_nil ?_
    refine wr ?_
    refine um ?_
    refine ua ?_
    refine u_nil ?_
    refine wr ?_
    refine ua ?_
    refine u_nil ?_
    refine WP.seq fun K28 hK28 => ?_
    refine WP.block ?_
    refine WP.loopL (ι := Unit) (fun _u => ⟨al [(0, .d (.str [36, 0])), (7, .d (.str (Utf8.encode c).data.toList)), (8, .d (.int .i64 (m : Nat))), (9, .d (.int .i64 (m : Nat)))], o, nk⟩) (fun _u => True) (fun _u => 0) (fun _u hA => ?_) () ?_ ?_
    ·
     refine WP.seq fun K29 hK29 => ?_
     refine wr ?_
     refine um ?_
     refine um ?_
     refine u_step (o_len_str rfl th9 rfl ?_)
     refine ub ?_
     refine u_nil ?_
     refine wc (fun hc31 => ?_) (fun hc31 => ?_) <;> try simp only [Q0, Q1, Q2, Q3, Q4, Q5, Q6, Q7, Q8, ge_iff_le, gt_iff_lt] at hc31
     ·
      obtain rfl : m = 1 := by simp at hc31; omega
      refine WP.skip ?_
      refine hK29 _ ?_
      refine WP.block ?_
      refine WP.scope ?_
      refine WP.seq fun K32 hK32 => ?_
      refine wd ?_
      refine dm ?_
      refine dm ?_
      refine d_step (o_ix rfl rfl th9 rfl (by decide) (by decide) ⟨rfl, rfl, rfl⟩) ?_
      refine dm ?_
      refine dm ?_
      refine d_step (o_ix rfl rfl th9 rfl (by decide) (by rw [hm]; decide) ⟨rfl, rfl, rfl⟩) ?_
      refine db ?_
      refine d_nil ?_
      refine wc (fun hc34 => ?_) (fun hc34 => ?_) <;> try simp only [Q0, Q1, Q2, Q3, Q4, Q5, Q6, Q7, Q8, ge_iff_le, gt_iff_lt] at hc34
      ·
       refine wd ?_
       refine dm ?_
       refine dm ?_
       refine db ?_
       refine d_step (o_sl_str (m := 2) (p := 2) rfl th9 rfl rfl rfl ⟨rfl, rfl, rfl⟩) ?_
       refine dm ?_
       refine dm ?_
       refine d_step (o_ix rfl rfl th9 rfl (by decide) (by rw [hm]; decide) ⟨rfl, rfl, rfl⟩) ?_
       refine d_step (o_pcall (s284 _ _) rfl ⟨rfl, rfl, rfl⟩) ?_
       refine da ?_
       refine d_nil ?_
       refine WP.seq fun K36 hK36 => ?_
       refine wr ?_
       refine um ?_
       refine ub ?_
       refine u_nil ?_
       refine wc (fun hc38 => ?_) (fun hc38 => ?_) <;> try simp only [Q0, Q1, Q2, Q3, Q4, Q5, Q6, Q7, Q8, ge_iff_le, gt_iff_lt] at hc38
       ·
        refine wr ?_
        refine ua ?_
        refine u_nil ?_
        refine WP.ret ?_
        refine ret_ok rfl ?_ (by omega) (fun _ _ => rfl)
        -- ret 5
        refine congrArg (D.int .i64) ?_
        unfold runeI
        rw [if_neg (by omega), if_neg (by omega)]
       ·
        exfalso
        have hq := hc38
        simp [Go.Lib.indexByte] at hq
      ·
       exfalso
       have hq := hc34
       simp at hq
       have h0 : bAt [36, 0] 1 = 0 := rfl
       omega
     ·
      refine WP.exit ?_
      refine hK28 _ ?_
      refine WP.seq fun K40 hK40 => ?_
      refine wr ?_
      refine ua ?_
      refine u_nil ?_
      refine WP.ret ?_
      refine ret_ok rfl ?_ (by omega) (fun _ _ => rfl)
      -- ret 6
      refine congrArg (D.int .i64) ?_
      unfold runeI
      rw [if_neg (by omega), if_neg (by omega)]
    ·
     trivial
    ·
     have hw : IntKind.i64.wrap (((Utf8.encode c).data.toList.length : Int) - 1) = (m : Int) := by rw [hm, wrap_i64 (by omega) (by have := encode_len4 c; omega)]; omega
     refine Le.al ?_
     simp only [List.forall_mem_cons]
     exact ⟨rfl, rfl, (by rw [← hw]; rfl), (by rw [← hw]; rfl), by simp⟩

end Go.Proofs.YtmielecljgfnaaaGreat.Abs

set_option linter.unusedVariables false
set_option linter.unusedSimpArgs false
set_option maxRecDepth 10000
namespace Go.Proofs.YtmielecljgfnaaaGreat.Abs
open Go
theorem any_bad (s : Str) : s.any badC = decide ((36 : UInt8) ∈ s ∨ (0 : UInt8) ∈ s) := by
  rw [Bool.eq_iff_iff]
  simp only [List.any_eq_true, decide_eq_true_eq, badC]
  constructor
  · rintro ⟨x, hx, rfl | rfl⟩
    · exact .inl hx
    · exact .inr hx
  · rintro (h | h)
    · exact ⟨_, h, .inl rfl⟩
    · exact ⟨_, h, .inr rfl⟩
theorem badC_get {s : Str} {i : Nat} (h : i < s.length) : decide ((s[((i : Int)).toNat]?.getD 0).toNat = 36 ∨ (s[((i : Int)).toNat]?.getD 0).toNat = 0) = badC (s[i]'h) := by
  rw [badC_nat]; simp [h]

theorem fn221 : FnOk Tryz.prog 221 55 [4] (bodyOf Tryz.f221) := ⟨Tryz.f221, Tryz.func221, by kernel_rfl, by decide, by kernel_rfl, by kernel_rfl⟩
theorem s221 (s : Str) : PSpec Tryz.prog 221 [.d (.str s), .d (.str [36, 0])] (.d (.int .i64 (anyI s))) := by
 refine PSpec.bd fun hbd => ?_
 have hx : s.length ≤ 9223372036854775807 := hbd.1
 refine PSpec.of fn221 (by simp) fun o nk => ?_
 refine wr ?_
 refine ua ?_
 refine u_nil ?_
 refine WP.seq fun K2 hK2 => ?_
 refine wr ?_
 refine um ?_
 refine u_step (o_bin_str rfl (show _ = SV.d (.str []) from rfl) rfl ?_)
 refine u_nil ?_
 refine wc (fun hc4 => ?_) (fun hc4 => ?_) <;> try simp only [Q0, Q1, Q2, Q3, Q4, Q5, Q6, Q7, Q8, ge_iff_le, gt_iff_lt] at hc4
 ·
  exact absurd hc4 (by decide)
 ·
  refine WP.skip ?_
  refine hK2 _ ?_
  refine WP.seq fun K5 hK5 => ?_
  refine wr ?_
  refine um ?_
  refine u_step (o_len_str rfl th9 rfl ?_)
  refine ub ?_
  refine u_nil ?_
  refine wc (fun hc7 => ?_) (fun hc7 => ?_) <;> try simp only [Q0, Q1, Q2, Q3, Q4, Q5, Q6, Q7, Q8, ge_iff_le, gt_iff_lt] at hc7
  ·
   exact absurd hc7 (by decide)
  ·
   refine WP.skip ?_
   refine hK5 _ ?_
   refine WP.seq fun K8 hK8 => ?_
   refine wr ?_
   refine um ?_
   refine u_step (o_len_str rfl th9 rfl ?_)
   refine u_step (o_pcall (s262 _) rfl ?_)
   refine u_nil ?_
   refine wc (fun hc10 => ?_) (fun hc10 => ?_) <;> try simp only [Q0, Q1, Q2, Q3, Q4, Q5, Q6, Q7, Q8, ge_iff_le, gt_iff_lt] at hc10
   ·
    refine wr ?_
    refine um ?_
    refine u_step (o_pcall (s263) rfl ?_)
    refine u_step (o_moveV (v := .tup _) rfl ?_)
    refine ue ?_
    refine ue ?_
    refine u_step (g_alloc th266 rfl fun o12 hb12 hk12 => ?_)
    refine u_step0 (g_sta rfl rfl th266 rfl hb12 (by simp [setA]) fun o13 hb13 hk13 => ?_)
    have hb13 : _ = some (AO.box ((setA 2).map .d)) := (hb13).trans (by simp [setA])
    refine ua ?_
    refine u_nil ?_
    refine wr ?_
    refine um ?_
    refine u_nil ?_
    refine wc (fun hc15 => ?_) (fun hc15 => ?_) <;> try simp only [Q0, Q1, Q2, Q3, Q4, Q5, Q6, Q7, Q8, ge_iff_le, gt_iff_lt] at hc15
    ·
     refine WP.seq fun K16 hK16 => ?_
     refine wr ?_
     refine ua ?_
     refine u_nil ?_
     refine WP.block ?_
     refine WP.loopL (ι := Nat) (fun i => ⟨al [(0, .d (.str s)), (6, .loc nk 0), (8, .d (.int .i64 i))], o13, (nk + 1)⟩) (fun i => i ≤ s.length ∧ ∀ (j : Nat) (hj : j < s.length), j < i → badC (s[j]'hj) = false) (fun i => s.length - i) (fun i hA => ?_) 0 ?_ ?_
     ·
      obtain ⟨hle_i, hin_i⟩ := hA
      refine WP.seq fun K18 hK18 => ?_
      refine wr ?_
      refine um ?_
      refine um ?_
      refine u_step (o_len_str rfl th9 rfl ?_)
      refine ub ?_
      refine u_nil ?_
      refine wc (fun hc20 => ?_) (fun hc20 => ?_) <;> try simp only [Q0, Q1, Q2, Q3, Q4, Q5, Q6, Q7, Q8, ge_iff_le, gt_iff_lt] at hc20
      ·
       refine WP.skip ?_
       refine hK18 _ ?_
       refine WP.seq fun K21 hK21 => ?_
       refine WP.block ?_
       refine wr ?_
       refine um ?_
       refine um ?_
       refine u_step (o_ix rfl rfl th9 rfl ?_ ?_ ?_)
       · omega
       · simp; omega
       refine u_step (o_scall (s264 (c := (s[((i : Int)).toNat]?.getD 0).toNat) hb13 (by omega) (UInt8.toNat_lt _)) rfl ?_)
       refine u_nil ?_
       refine wc (fun hc23 => ?_) (fun hc23 => ?_) <;> try simp only [Q0, Q1, Q2, Q3, Q4, Q5, Q6, Q7, Q8, ge_iff_le, gt_iff_lt] at hc23
       ·
        refine wr ?_
        refine um ?_
        refine ua ?_
        refine u_nil ?_
        refine WP.ret ?_
        refine ret_ok rfl ?_ (by omega) (fun t ht => (hk13 t (by omega)).trans ((hk12 t (by omega))))
        -- ret 1
        refine congrArg (D.int .i64) ?_
        exact (firstI_at (p := badC) (xs := s) (i := i) (by omega) (by rw [← badC_get (by omega)]; exact decide_eq_true hc23) hin_i).symm
       ·
        refine WP.skip ?_
        refine hK21 _ ?_
        refine WP.reg tabOk rfl ?_
        refine um ?_
        refine ub ?_
        refine ua ?_
        refine u_nil ?_
        -- back
        refine ⟨i + 1, ⟨by omega, ?_⟩, by omega, ?_⟩
        · intro j hj h1
          by_cases h2 : j = i
          · subst h2; rw [← badC_get (by omega)]; exact decide_eq_false hc23
          · exact hin_i j hj (by omega)
        · refine Le.al ?_
          simp only [List.forall_mem_cons]
          exact ⟨rfl, rfl, cnt (by omega), by simp⟩
      ·
       refine WP.exit ?_
       refine hK16 _ ?_
       refine wr ?_
       refine ua ?_
       refine u_nil ?_
       refine WP.ret ?_
       refine ret_ok rfl ?_ (by omega) (fun t ht => (hk13 t (by omega)).trans ((hk12 t (by omega))))
       -- ret 2
       refine congrArg (D.int .i64) ?_
       exact (firstI_none (p := badC) (xs := s) fun j hj => hin_i j hj (by omega)).symm
     ·
      simp
     ·
      refine Le.al ?_
      simp only [List.forall_mem_cons]
      exact ⟨rfl, rfl, rfl, by simp⟩
    ·
     cases hc15
   ·
    refine WP.skip ?_
    refine hK8 _ ?_
    refine WP.seq fun K26 hK26 => ?_
    refine wr ?_
    refine um ?_
    refine u_step (g_range rfl th9 rfl fun o28 hb28 hk28 => ?_)
    refine u_nil ?_
    refine WP.block ?_
    refine WP.loopL (ι := Nat × (Nat → Option AO)) (fun ⟨i, o2⟩ => ⟨al [(0, .d (.str s)), (1, .d (.str [36, 0])), (45, .raw nk)], o2, (nk + 1)⟩) (fun ⟨i, o2⟩ => i ≤ s.length ∧ o2 nk = some (.raw (itOb s i)) ∧ (∀ t, t < nk → o2 t = o t) ∧ ∀ (j : Nat) (hj : j < s.length), j < i → badC (s[j]'hj) = false) (fun ⟨i, o2⟩ => s.length - i) (fun ⟨i, o2⟩ hA => ?_) ⟨0, o28⟩ ?_ ?_
    ·
     obtain ⟨hle, hob, hfr, hin⟩ := hA
     refine wr ?_
     refine u_step (g_next rfl hob (fun hp30 o30 hb30 hk30 => ?_) (fun hp30 => ?_))
     ·
      have hlt : i < s.length := hp30
      obtain ⟨hd1, hd2, hd3, hd4⟩ := dec_at hlt
      refine ue ?_
      refine u_nil ?_
      refine WP.seq fun K31 hK31 => ?_
      refine WP.cond rfl (fun hc32 => ?_) (fun hc32 => by cases hc32)
      refine WP.skip ?_
      refine hK31 _ ?_
      refine WP.block ?_
      refine wr ?_
      refine ue ?_
      refine ue ?_
      refine ua ?_
      refine ua ?_
      refine u_nil ?_
      refine wr ?_
      refine um ?_
      refine um ?_
      refine u_step (o_pcall (s261 _ (by omega) (by have := dec_bd ⟨s.toArray⟩ i; omega)) rfl ?_)
      refine ub ?_
      refine u_nil ?_
      refine wc (fun hc35 => ?_) (fun hc35 => ?_) <;> try simp only [Q0, Q1, Q2, Q3, Q4, Q5, Q6, Q7, Q8, ge_iff_le, gt_iff_lt] at hc35
      ·
       refine wr ?_
       refine um ?_
       refine ua ?_
       refine u_nil ?_
       refine WP.ret ?_
       refine ret_ok rfl ?_ (by omega) (fun t ht => (hk30 t (by omega)).trans ((hfr t (by omega))))
       -- ret 3
       refine congrArg (D.int .i64) ?_
       exact (firstI_at (p := badC) (xs := s) (i := i) (by omega) (by rw [← hd4]; exact decide_eq_true hc35) hin).symm
      ·
       refine WP.skip ?_
       -- back
       refine ⟨⟨i + _, o30⟩, ⟨by omega, hb30, (fun t ht => (hk30 t (by omega)).trans ((hfr t (by omega)))), ?_⟩, by simp only; omega, ?_⟩
       · intro j hj h1
         rcases Nat.lt_trichotomy j i with h2 | h2 | h2
         · exact hin j hj h2
         · subst h2; rw [← hd4]; exact decide_eq_false hc35
         · exact hd3 j hj h2 h1
       · refine Le.al ?_
         simp only [List.forall_mem_cons]
         exact ⟨rfl, rfl, rfl, by simp⟩
     ·
      refine ue ?_
      refine u_nil ?_
      refine WP.seq fun K37 hK37 => ?_
      refine WP.cond rfl (fun hc38 => by cases hc38) (fun hc38 => ?_)
      refine WP.exit ?_
      refine hK26 _ ?_
      refine wr ?_
      refine ua ?_
      refine u_nil ?_
      refine WP.ret ?_
      refine ret_ok rfl ?_ (by omega) (fun t ht => (hfr t (by omega)))
      -- ret 4
      refine congrArg (D.int .i64) ?_
      exact (firstI_none (p := badC) (xs := s) fun j hj => hin j hj (by omega)).symm
    ·
     exact ⟨by omega, hb28, (fun t ht => (hk28 t (by omega))), by simp⟩
    ·
     refine Le.al ?_
     simp only [List.forall_mem_cons]
     exact ⟨rfl, rfl, rfl, by simp⟩

theorem fn172 : FnOk Tryz.prog 172 9 [4] (bodyOf Tryz.f172) := ⟨Tryz.f172, Tryz.func172, by kernel_rfl, by decide, by kernel_rfl, by kernel_rfl⟩
theorem s172 (s : Str) : PSpec Tryz.prog 172 [.d (.str s), .d (.str [36, 0])] (.d (.bool (s.any badC))) := by
 refine PSpec.of fn172 (by simp) fun o nk => ?_
 refine wr ?_
 refine ua ?_
 refine u_nil ?_
 refine wr ?_
 refine um ?_
 refine um ?_
 refine u_step (o_pcall (s221 s) rfl ?_)
 refine ub ?_
 refine ua ?_
 refine u_nil ?_
 refine WP.ret ?_
 refine ret_ok rfl ?_ (by omega) (fun _ _ => rfl)
 -- ret 1
 rw [← firstI_nn]
 rfl

theorem fn108 : FnOk Tryz.prog 108 16 [2] (bodyOf Tryz.f108) := ⟨Tryz.f108, Tryz.func108, by kernel_rfl, by decide, by kernel_rfl, by kernel_rfl⟩
theorem s108 (s : Str) : PSpec Tryz.prog 108 [.d (.str s)] (.d (.bool (collV s))) := by
 refine PSpec.of fn108 (by simp) fun o nk => ?_
 refine wr ?_
 refine ua ?_
 refine u_nil ?_
 refine wr ?_
 refine um ?_
 refine u_step (o_len_str rfl th9 rfl ?_)
 refine ub ?_
 refine um ?_
 apply gT
 · rfl
 · intro hg
   exact pm
 apply gT
 · rfl
 · intro hg; try simp only [hg, ct]; try simp only [hg, ct, Bt]
   refine o_len_str rfl th9 rfl ⟨rfl, rfl, rfl⟩
 apply gT
 · rfl
 · intro hg; try simp only [hg, ct]; try simp only [hg, ct, Bt]
   exact pb
 refine uA ?_
 refine um ?_
 apply gT
 · rfl
 · intro hg
   exact pm
 apply gT
 · rfl
 · intro hg; try simp only [hg, ct]; try simp only [hg, ct, Bt]
   refine o_pcall (s172 s) rfl ⟨rfl, rfl, rfl⟩
 apply gT
 · rfl
 · intro hg; try simp only [hg, ct]; try simp only [hg, ct, Bt]
   exact pN
 refine uA ?_
 refine ua ?_
 refine u_nil ?_
 refine WP.ret ?_
 refine ret_ok rfl ?_ (by omega) (fun _ _ => rfl)
 -- ret 1
 refine congrArg D.bool ?_
 rw [any_bad, Bool.eq_iff_iff]
 simp only [collV, Bool.and_eq_true, decide_eq_true_eq, Bool.not_eq_true', decide_eq_false_iff_not, not_or]
 constructor
 · rintro ⟨⟨h1, h2⟩, h3, h4⟩; exact ⟨by omega, by omega, h3, h4⟩
 · rintro ⟨h1, h2, h3, h4⟩; exact ⟨⟨by omega, by omega⟩, h3, h4⟩

end Go.Proofs.YtmielecljgfnaaaGreat.Abs

set_option linter.unusedVariables false
set_option linter.unusedSimpArgs false
set_option maxRecDepth 10000
namespace Go.Proofs.YtmielecljgfnaaaGreat.Abs
open Go
def hasC (k : Int) : Bool := decide (2 ≤ k) && decide (k ≤ 7)
def hasT (k : Int) : Bool := decide (k = 7)
def hasI (k : Int) : Bool := decide (k = 2) || decide (k = 3) || decide (k = 4)
def hasD (k : Int) : Bool := decide (k = 2)
def hasS (k : Int) : Bool := decide (k = 3)
theorem s117b (k : Int) : PSpec Tryz.prog 117 [.d (.int .i64 k)] (.tup [.d (.bool (hasC k)), .d (.bool (hasT k)), .d (.bool (hasI k)), .d (.bool (hasD k)), .d (.bool (hasS k))]) := by
  have h := s117 k
  have e : (hasL k).map SV.d = [.d (.bool (hasC k)), .d (.bool (hasT k)), .d (.bool (hasI k)), .d (.bool (hasD k)), .d (.bool (hasS k))] := by
    unfold hasL hasC hasT hasI hasD hasS
    by_cases h2 : k = 2
    · subst h2; rfl
    · by_cases h3 : k = 3
      · subst h3; rfl
      · by_cases h4 : k = 4
        · subst h4; rfl
        · by_cases h5 : k = 5
          · subst h5; rfl
          · by_cases h6 : k = 6
            · subst h6; rfl
            · by_cases h7 : k = 7
              · subst h7; rfl
              · have : (decide (2 ≤ k) && decide (k ≤ 7)) = false := by simp; omega
                simp [h2, h3, h4, h5, h6, h7, this]
  rwa [e] at h
structure Bits (k : Int) : Prop where
  t1 : (bitsOf .and .i64 (fieldsV k) 2 != 0) = hasT k
  t0 : (bitsOf .and .i64 (fieldsV k) 2 == 0) = !hasT k
  c1 : (bitsOf .and .i64 (fieldsV k) 1 != 0) = hasC k
  c0 : (bitsOf .and .i64 (fieldsV k) 1 == 0) = !hasC k
  i1 : (bitsOf .and .i64 (fieldsV k) 4 != 0) = hasI k
  i0 : (bitsOf .and .i64 (fieldsV k) 4 == 0) = !hasI k
  d1 : (bitsOf .and .i64 (fieldsV k) 8 != 0) = hasD k
  d0 : (bitsOf .and .i64 (fieldsV k) 8 == 0) = !hasD k
  s1 : (bitsOf .and .i64 (fieldsV k) 16 != 0) = hasS k
  s0 : (bitsOf .and .i64 (fieldsV k) 16 == 0) = !hasS k
theorem bits_of {k : Int} (h : 1 ≤ k ∧ k ≤ 7) : Bits k := by
  obtain rfl | rfl | rfl | rfl | rfl | rfl | rfl : k = 1 ∨ k = 2 ∨ k = 3 ∨ k = 4 ∨ k = 5 ∨ k = 6 ∨ k = 7 := by omega
  all_goals exact ⟨by decide, by decide, by decide, by decide, by decide, by decide, by decide, by decide, by decide, by decide⟩
theorem fields_ok (k : Int) : decide (fieldsV k < 0) = !(decide (1 ≤ k) && decide (k ≤ 7)) := by
  by_cases h : 1 ≤ k ∧ k ≤ 7
  · obtain rfl | rfl | rfl | rfl | rfl | rfl | rfl : k = 1 ∨ k = 2 ∨ k = 3 ∨ k = 4 ∨ k = 5 ∨ k = 6 ∨ k = 7 := by omega
    all_goals rfl
  · have : fieldsV k = -1 := by
      unfold fieldsV
      rw [if_neg (by omega), if_neg (by omega), if_neg (by omega), if_neg (by omega), if_neg (by omega), if_neg (by omega)]
    rw [this, Bool.eq_iff_iff]
    simp
    omega
def namesE (e : Etr) : Bool := (if hasT e.kind = true then collV e.to && !decide (e.to = e.coll) else decide (e.to = [])) && (if hasC e.kind = true then collV e.coll else decide (e.coll = []))
noncomputable def valuesE (e : Etr) : Bool := (hasI e.kind || noneV e.id) && (hasD e.kind || noneV e.doc) && (hasS e.kind || decide (e.deltas.length = 0)) && (!hasI e.kind || decide (checkV e.id = 0)) && (!hasD e.kind || mayDocV e.doc e.id) && (!hasS e.kind || mayDeltasV e.deltas)
/-- May an entry be? -/
noncomputable def mayE (e : Etr) : Bool := (decide (1 ≤ e.kind) && decide (e.kind ≤ 7)) && (decide (0 ≤ e.term) && decide (e.term ≤ 1099511627776)) && (decide (0 ≤ e.session) && decide (e.session ≤ 255)) && (decide (0 ≤ e.number) && decide (e.number ≤ 1099511627776)) && (!decide (e.kind = 1) || decide (e.session = 0) && decide (e.number = 0)) && namesE e && valuesE e
structure OkE (e : Etr) : Prop where
  ri : rngV e.id
  si : szV e.id ≤ 1099511627776
  rd : rngV e.doc
  sd : szV e.doc ≤ 1099511627776
  ds : e.deltas.length ≤ 64 → ∀ d ∈ e.deltas, okD d
theorem coll_nil : collV [] = false := by decide
theorem d_imp_i {k : Int} (h : hasD k = true) : hasI k = true := by
  unfold hasD at h; unfold hasI; simp at h; simp [h]
theorem pvE {P : Program} {f : FuncId} {v w : Val} {r : SV} (h : PSpec P f [.d (encV v), .d (encV w)] r) : PSpec P f [.d (.agg (valCells v)), .d (.agg (valCells w))] r := by
  rw [encV_eq, encV_eq] at h; exact h

theorem fn115 : FnOk Tryz.prog 115 40 [4] (bodyOf Tryz.f115) := ⟨Tryz.f115, Tryz.func115, by kernel_rfl, by decide, by kernel_rfl, by kernel_rfl⟩
theorem s115 (e : Etr) (hk : 1 ≤ e.kind ∧ e.kind ≤ 7) : PSpec Tryz.prog 115 [.d (encE e), .d (.int .i64 (fieldsV e.kind))] (.d (.bool (namesE e))) := by
 have hb := bits_of hk
 refine PSpec.of fn115 (by simp) fun o nk => ?_
 refine wr ?_
 refine u_step (g_box rfl fun o2 hb2 hk2 => ?_)
 refine ua ?_
 refine u_nil ?_
 refine WP.seq fun K3 hK3 => ?_
 refine wr ?_
 refine um ?_
 refine ub ?_
 refine ub ?_
 refine um ?_
 apply gT
 · rfl
 · intro hg
   exact pf th72 th9 hb2
 apply gT
 · rfl
 · intro hg; try simp only [hg, ct]; try simp only [hg, ct, Bt]
   exact pl th9 hb2
 apply gT
 · rfl
 · intro hg; try simp only [hg, ct]; try simp only [hg, ct, Bt]
   refine o_pcall (s108 _) rfl ⟨rfl, rfl, rfl⟩
 apply gT
 · rfl
 · intro hg; try simp only [hg, ct]; try simp only [hg, ct, Bt]
   exact pN
 apply gT
 · rfl
 · intro hg; try simp only [hg, ct]; try simp only [hg, ct, Bt]
   exact pm
 apply u_guard
 · exact GC.cf _ _
 · intro hg
   exact pf th72 th9 hb2
 apply u_guard
 · exact GC.cf _ _
 · intro hg; try simp only [hg, ct]; try simp only [hg, ct, Bt]
   exact pl th9 hb2
 apply u_guard
 · exact GC.cf _ _
 · intro hg
   exact pf th72 th9 hb2
 apply u_guard
 · exact GC.cf _ _
 · intro hg; try simp only [hg, ct]; try simp only [hg, ct, Bt]
   exact pl th9 hb2
 apply u_guard
 · exact GC.cf _ _
 · intro hg; try simp only [hg, ct]; try simp only [hg, ct, Bt]
   exact ps
 apply gT
 · rfl
 · intro hg; try simp only [hg, ct]; try simp only [hg, ct, Bt]
   exact pO
 refine uA ?_
 refine um ?_
 apply gF
 · rfl
 · intro hg
   exact pm
 apply gF
 · rfl
 · intro hg; try simp only [hg, ct]; try simp only [hg, ct, Bt]
   exact pb
 apply gF
 · rfl
 · intro hg; try simp only [hg, ct]; try simp only [hg, ct, Bt]
   exact pb
 apply gF
 · rfl
 · intro hg; try simp only [hg, ct]; try simp only [hg, ct, Bt]
   exact pm
 apply u_guard
 · exact GC.ct _ _
 · intro hg
   exact pf th72 th9 hb2
 apply u_guard
 · exact GC.ct _ _
 · intro hg; try simp only [hg, ct]; try simp only [hg, ct, Bt]
   exact pl th9 hb2
 apply u_guard
 · exact GC.ct _ _
 · intro hg; try simp only [hg, ct]; try simp only [hg, ct, Bt]
   refine o_bin_str rfl (show _ = SV.d (.str []) from rfl) rfl ⟨rfl, rfl, rfl⟩
 apply gF
 · rfl
 · intro hg; try simp only [hg, ct]; try simp only [hg, ct, Bt]
   exact pA
 refine uO ?_
 refine u_nil ?_
 refine wc (fun hc5 => ?_) (fun hc5 => ?_) <;> try simp only [Q0, Q1, Q2, Q3, Q4, Q5, Q6, Q7, Q8, ge_iff_le, gt_iff_lt] at hc5
 ·
  refine wr ?_
  refine ua ?_
  refine u_nil ?_
  refine WP.ret ?_
  refine ret_ok rfl ?_ (by omega) (fun t ht => (hk2 t (by omega)))
  -- ret 1
  clear hK3
  refine congrArg D.bool ?_
  try simp only [hb.t1, hb.t0, hb.c1, hb.c0, hb.i1, hb.i0, hb.d1, hb.d0, hb.s1, hb.s0] at hc5
  try simp only [hb.t1, hb.t0, hb.c1, hb.c0, hb.i1, hb.i0, hb.d1, hb.d0, hb.s1, hb.s0]
  simp only [namesE, List.length_map] at *
  grind
 ·
  refine WP.skip ?_
  refine hK3 _ ?_
  refine WP.seq fun K7 hK7 => ?_
  refine wr ?_
  refine um ?_
  refine ub ?_
  refine ub ?_
  refine u_nil ?_
  refine wc (fun hc9 => ?_) (fun hc9 => ?_) <;> try simp only [Q0, Q1, Q2, Q3, Q4, Q5, Q6, Q7, Q8, ge_iff_le, gt_iff_lt] at hc9
  ·
   refine wr ?_
   refine uf th72 th9 hb2 ?_
   refine ul th9 hb2 ?_
   refine u_step (o_pcall (s108 _) rfl ?_)
   refine ua ?_
   refine u_nil ?_
   refine WP.ret ?_
   refine ret_ok rfl ?_ (by omega) (fun t ht => (hk2 t (by omega)))
   -- ret 2
   clear hK3 hK7
   refine congrArg D.bool ?_
   try simp only [hb.t1, hb.t0, hb.c1, hb.c0, hb.i1, hb.i0, hb.d1, hb.d0, hb.s1, hb.s0] at hc5 hc9
   try simp only [hb.t1, hb.t0, hb.c1, hb.c0, hb.i1, hb.i0, hb.d1, hb.d0, hb.s1, hb.s0]
   simp only [namesE, List.length_map] at *
   grind
  ·
   refine WP.skip ?_
   refine hK7 _ ?_
   refine wr ?_
   refine uf th72 th9 hb2 ?_
   refine ul th9 hb2 ?_
   refine u_step (o_bin_str rfl (show _ = SV.d (.str []) from rfl) rfl ?_)
   refine ua ?_
   refine u_nil ?_
   refine WP.ret ?_
   refine ret_ok rfl ?_ (by omega) (fun t ht => (hk2 t (by omega)))
   -- ret 3
   clear hK3 hK7
   refine congrArg D.bool ?_
   try simp only [hb.t1, hb.t0, hb.c1, hb.c0, hb.i1, hb.i0, hb.d1, hb.d0, hb.s1, hb.s0] at hc5 hc9
   try simp only [hb.t1, hb.t0, hb.c1, hb.c0, hb.i1, hb.i0, hb.d1, hb.d0, hb.s1, hb.s0]
   simp only [namesE, List.length_map] at *
   grind

theorem fn116 : FnOk Tryz.prog 116 63 [4] (bodyOf Tryz.f116) := ⟨Tryz.f116, Tryz.func116, by kernel_rfl, by decide, by kernel_rfl, by kernel_rfl⟩
theorem s116 (e : Etr) (hk : 1 ≤ e.kind ∧ e.kind ≤ 7) (ok : OkE e) : PSpec Tryz.prog 116 [.d (encE e), .d (.int .i64 (fieldsV e.kind))] (.d (.bool (valuesE e))) := by
 have hb := bits_of hk
 refine PSpec.of fn116 (by simp) fun o nk => ?_
 refine wr ?_
 refine u_step (g_box rfl fun o2 hb2 hk2 => ?_)
 refine ua ?_
 refine u_nil ?_
 refine WP.seq fun K3 hK3 => ?_
 refine WP.block ?_
 refine WP.seq fun K4 hK4 => ?_
 refine wr ?_
 refine um ?_
 refine ub ?_
 refine ub ?_
 refine um ?_
 apply gT
 · rfl
 · intro hg
   exact pf th72 th69 hb2
 apply gT
 · rfl
 · intro hg; try simp only [hg, ct]; try simp only [hg, ct, Bt]
   exact pg th69 hb2
 apply gT
 · rfl
 · intro hg; try simp only [hg, ct]; try simp only [hg, ct, Bt]
   refine o_pcall (pv (v := e.id) (s173 e.id ok.si)) rfl ⟨rfl, rfl, rfl⟩
 apply gT
 · rfl
 · intro hg; try simp only [hg, ct]; try simp only [hg, ct, Bt]
   exact pN
 refine uA ?_
 refine ua ?_
 refine u_nil ?_
 refine wc (fun hc6 => ?_) (fun hc6 => ?_) <;> try simp only [Q0, Q1, Q2, Q3, Q4, Q5, Q6, Q7, Q8, ge_iff_le, gt_iff_lt] at hc6
 ·
  refine WP.skip ?_
  refine hK4 _ ?_
  refine wc (fun hc7 => ?_) (fun hc7 => ?_) <;> try simp only [Q0, Q1, Q2, Q3, Q4, Q5, Q6, Q7, Q8, ge_iff_le, gt_iff_lt] at hc7
  ·
   refine wr ?_
   refine ua ?_
   refine u_nil ?_
   refine WP.ret ?_
   refine ret_ok rfl ?_ (by omega) (fun t ht => (hk2 t (by omega)))
   -- ret 1
   clear hK3 hK4
   refine congrArg D.bool ?_
   try simp only [hb.t1, hb.t0, hb.c1, hb.c0, hb.i1, hb.i0, hb.d1, hb.d0, hb.s1, hb.s0] at hc6 hc7
   try simp only [hb.t1, hb.t0, hb.c1, hb.c0, hb.i1, hb.i0, hb.d1, hb.d0, hb.s1, hb.s0]
   simp only [valuesE, List.length_map] at *
   grind
  ·
   refine wr ?_
   refine um ?_
   refine ub ?_
   refine ub ?_
   refine um ?_
   apply gT
   · rfl
   · intro hg
     exact pf th72 th69 hb2
   apply gT
   · rfl
   · intro hg; try simp only [hg, ct]; try simp only [hg, ct, Bt]
     exact pg th69 hb2
   apply gT
   · rfl
   · intro hg; try simp only [hg, ct]; try simp only [hg, ct, Bt]
     refine o_pcall (pv (v := e.id) (s164 e.id ok.ri ok.si)) rfl ⟨rfl, rfl, rfl⟩
   apply gT
   · rfl
   · intro hg; try simp only [hg, ct]; try simp only [hg, ct, Bt]
     exact pb
   refine uA ?_
   refine ua ?_
   refine u_nil ?_
   refine wc (fun hc10 => ?_) (fun hc10 => ?_) <;> try simp only [Q0, Q1, Q2, Q3, Q4, Q5, Q6, Q7, Q8, ge_iff_le, gt_iff_lt] at hc10
   ·
    refine wr ?_
    refine ua ?_
    refine u_nil ?_
    refine WP.ret ?_
    refine ret_ok rfl ?_ (by omega) (fun t ht => (hk2 t (by omega)))
    -- ret 2
    clear hK3 hK4
    refine congrArg D.bool ?_
    try simp only [hb.t1, hb.t0, hb.c1, hb.c0, hb.i1, hb.i0, hb.d1, hb.d0, hb.s1, hb.s0] at hc6 hc7 hc10
    try simp only [hb.t1, hb.t0, hb.c1, hb.c0, hb.i1, hb.i0, hb.d1, hb.d0, hb.s1, hb.s0]
    simp only [valuesE, List.length_map] at *
    grind
   ·
    refine wr ?_
    refine um ?_
    refine ub ?_
    refine ub ?_
    refine um ?_
    apply gT
    · rfl
    · intro hg
      exact pf th72 th69 hb2
    apply gT
    · rfl
    · intro hg; try simp only [hg, ct]; try simp only [hg, ct, Bt]
      exact pg th69 hb2
    apply gT
    · rfl
    · intro hg
      exact pf th72 th69 hb2
    apply gT
    · rfl
    · intro hg; try simp only [hg, ct]; try simp only [hg, ct, Bt]
      exact pg th69 hb2
    apply gT
    · rfl
    · intro hg; try simp only [hg, ct]; try simp only [hg, ct, Bt]
      refine o_pcall (pvE (v := e.doc) (w := e.id) (s174 e.doc e.id ok.rd ok.sd (by simp only [hb.d1] at hg; have hi := d_imp_i hg; have hq := hc10; simp only [hb.i1, hi, Bool.true_and, bne_eq_false_iff_eq] at hq; exact check_may hq))) rfl ⟨rfl, rfl, rfl⟩
    apply gT
    · rfl
    · intro hg; try simp only [hg, ct]; try simp only [hg, ct, Bt]
      exact pN
    refine uA ?_
    refine ua ?_
    refine u_nil ?_
    refine wc (fun hc13 => ?_) (fun hc13 => ?_) <;> try simp only [Q0, Q1, Q2, Q3, Q4, Q5, Q6, Q7, Q8, ge_iff_le, gt_iff_lt] at hc13
    ·
     refine wr ?_
     refine ua ?_
     refine u_nil ?_
     refine WP.ret ?_
     refine ret_ok rfl ?_ (by omega) (fun t ht => (hk2 t (by omega)))
     -- ret 3
     clear hK3 hK4
     refine congrArg D.bool ?_
     try simp only [hb.t1, hb.t0, hb.c1, hb.c0, hb.i1, hb.i0, hb.d1, hb.d0, hb.s1, hb.s0] at hc6 hc7 hc10 hc13
     try simp only [hb.t1, hb.t0, hb.c1, hb.c0, hb.i1, hb.i0, hb.d1, hb.d0, hb.s1, hb.s0]
     simp only [valuesE, List.length_map] at *
     grind
    ·
     refine WP.skip ?_
     refine hK3 _ ?_
     refine wr ?_
     refine um ?_
     refine ub ?_
     refine ub ?_
     refine um ?_
     apply gF
     · rfl
     · intro hg
       exact pf th72 th70 hb2
     apply gF
     · rfl
     · intro hg; try simp only [hg, ct]; try simp only [hg, ct, Bt]
       exact pl th70 hb2
     apply gF
     · rfl
     · intro hg; try simp only [hg, ct]; try simp only [hg, ct, Bt]
       refine o_pcall (s175 e.deltas ok.ds) rfl ⟨rfl, rfl, rfl⟩
     refine uO ?_
     refine ua ?_
     refine u_nil ?_
     refine WP.ret ?_
     refine ret_ok rfl ?_ (by omega) (fun t ht => (hk2 t (by omega)))
     -- ret 4
     clear hK3 hK4
     refine congrArg D.bool ?_
     try simp only [hb.t1, hb.t0, hb.c1, hb.c0, hb.i1, hb.i0, hb.d1, hb.d0, hb.s1, hb.s0] at hc6 hc7 hc10 hc13
     try simp only [hb.t1, hb.t0, hb.c1, hb.c0, hb.i1, hb.i0, hb.d1, hb.d0, hb.s1, hb.s0]
     simp only [valuesE, List.length_map] at *
     grind
 ·
  refine wr ?_
  refine um ?_
  refine ub ?_
  refine ub ?_
  refine um ?_
  apply gT
  · rfl
  · intro hg
    exact pf th72 th69 hb2
  apply gT
  · rfl
  · intro hg; try simp only [hg, ct]; try simp only [hg, ct, Bt]
    exact pg th69 hb2
  apply gT
  · rfl
  · intro hg; try simp only [hg, ct]; try simp only [hg, ct, Bt]
    refine o_pcall (pv (v := e.doc) (s173 e.doc ok.sd)) rfl ⟨rfl, rfl, rfl⟩
  apply gT
  · rfl
  · intro hg; try simp only [hg, ct]; try simp only [hg, ct, Bt]
    exact pN
  refine uA ?_
  refine ua ?_
  refine u_nil ?_
  refine wc (fun hc17 => ?_) (fun hc17 => ?_) <;> try simp only [Q0, Q1, Q2, Q3, Q4, Q5, Q6, Q7, Q8, ge_iff_le, gt_iff_lt] at hc17
  ·
   refine WP.skip ?_
   refine hK4 _ ?_
   refine wc (fun hc18 => ?_) (fun hc18 => ?_) <;> try simp only [Q0, Q1, Q2, Q3, Q4, Q5, Q6, Q7, Q8, ge_iff_le, gt_iff_lt] at hc18
   ·
    refine wr ?_
    refine ua ?_
    refine u_nil ?_
    refine WP.ret ?_
    refine ret_ok rfl ?_ (by omega) (fun t ht => (hk2 t (by omega)))
    -- ret 5
    clear hK3 hK4
    refine congrArg D.bool ?_
    try simp only [hb.t1, hb.t0, hb.c1, hb.c0, hb.i1, hb.i0, hb.d1, hb.d0, hb.s1, hb.s0] at hc6 hc17 hc18
    try simp only [hb.t1, hb.t0, hb.c1, hb.c0, hb.i1, hb.i0, hb.d1, hb.d0, hb.s1, hb.s0]
    simp only [valuesE, List.length_map] at *
    grind
   ·
    refine wr ?_
    refine um ?_
    refine ub ?_
    refine ub ?_
    refine um ?_
    apply gT
    · rfl
    · intro hg
      exact pf th72 th69 hb2
    apply gT
    · rfl
    · intro hg; try simp only [hg, ct]; try simp only [hg, ct, Bt]
      exact pg th69 hb2
    apply gT
    · rfl
    · intro hg; try simp only [hg, ct]; try simp only [hg, ct, Bt]
      refine o_pcall (pv (v := e.id) (s164 e.id ok.ri ok.si)) rfl ⟨rfl, rfl, rfl⟩
    apply gT
    · rfl
    · intro hg; try simp only [hg, ct]; try simp only [hg, ct, Bt]
      exact pb
    refine uA ?_
    refine ua ?_
    refine u_nil ?_
    refine wc (fun hc21 => ?_) (fun hc21 => ?_) <;> try simp only [Q0, Q1, Q2, Q3, Q4, Q5, Q6, Q7, Q8, ge_iff_le, gt_iff_lt] at hc21
    ·
     refine wr ?_
     refine ua ?_
     refine u_nil ?_
     refine WP.ret ?_
     refine ret_ok rfl ?_ (by omega) (fun t ht => (hk2 t (by omega)))
     -- ret 6
     clear hK3 hK4
     refine congrArg D.bool ?_
     try simp only [hb.t1, hb.t0, hb.c1, hb.c0, hb.i1, hb.i0, hb.d1, hb.d0, hb.s1, hb.s0] at hc6 hc17 hc18 hc21
     try simp only [hb.t1, hb.t0, hb.c1, hb.c0, hb.i1, hb.i0, hb.d1, hb.d0, hb.s1, hb.s0]
     simp only [valuesE, List.length_map] at *
     grind
    ·
     refine wr ?_
     refine um ?_
     refine ub ?_
     refine ub ?_
     refine um ?_
     apply gT
     · rfl
     · intro hg
       exact pf th72 th69 hb2
     apply gT
     · rfl
     · intro hg; try simp only [hg, ct]; try simp only [hg, ct, Bt]
       exact pg th69 hb2
     apply gT
     · rfl
     · intro hg
       exact pf th72 th69 hb2
     apply gT
     · rfl
     · intro hg; try simp only [hg, ct]; try simp only [hg, ct, Bt]
       exact pg th69 hb2
     apply gT
     · rfl
     · intro hg; try simp only [hg, ct]; try simp only [hg, ct, Bt]
       refine o_pcall (pvE (v := e.doc) (w := e.id) (s174 e.doc e.id ok.rd ok.sd (by simp only [hb.d1] at hg; have hi := d_imp_i hg; have hq := hc21; simp only [hb.i1, hi, Bool.true_and, bne_eq_false_iff_eq] at hq; exact check_may hq))) rfl ⟨rfl, rfl, rfl⟩
     apply gT
     · rfl
     · intro hg; try simp only [hg, ct]; try simp only [hg, ct, Bt]
       exact pN
     refine uA ?_
     refine ua ?_
     refine u_nil ?_
     refine wc (fun hc24 => ?_) (fun hc24 => ?_) <;> try simp only [Q0, Q1, Q2, Q3, Q4, Q5, Q6, Q7, Q8, ge_iff_le, gt_iff_lt] at hc24
     ·
      refine wr ?_
      refine ua ?_
      refine u_nil ?_
      refine WP.ret ?_
      refine ret_ok rfl ?_ (by omega) (fun t ht => (hk2 t (by omega)))
      -- ret 7
      clear hK3 hK4
      refine congrArg D.bool ?_
      try simp only [hb.t1, hb.t0, hb.c1, hb.c0, hb.i1, hb.i0, hb.d1, hb.d0, hb.s1, hb.s0] at hc6 hc17 hc18 hc21 hc24
      try simp only [hb.t1, hb.t0, hb.c1, hb.c0, hb.i1, hb.i0, hb.d1, hb.d0, hb.s1, hb.s0]
      simp only [valuesE, List.length_map] at *
      grind
     ·
      refine WP.skip ?_
      refine hK3 _ ?_
      refine wr ?_
      refine um ?_
      refine ub ?_
      refine ub ?_
      refine um ?_
      apply gF
      · rfl
      · intro hg
        exact pf th72 th70 hb2
      apply gF
      · rfl
      · intro hg; try simp only [hg, ct]; try simp only [hg, ct, Bt]
        exact pl th70 hb2
      apply gF
      · rfl
      · intro hg; try simp only [hg, ct]; try simp only [hg, ct, Bt]
        refine o_pcall (s175 e.deltas ok.ds) rfl ⟨rfl, rfl, rfl⟩
      refine uO ?_
      refine ua ?_
      refine u_nil ?_
      refine WP.ret ?_
      refine ret_ok rfl ?_ (by omega) (fun t ht => (hk2 t (by omega)))
      -- ret 8
      clear hK3 hK4
      refine congrArg D.bool ?_
      try simp only [hb.t1, hb.t0, hb.c1, hb.c0, hb.i1, hb.i0, hb.d1, hb.d0, hb.s1, hb.s0] at hc6 hc17 hc18 hc21 hc24
      try simp only [hb.t1, hb.t0, hb.c1, hb.c0, hb.i1, hb.i0, hb.d1, hb.d0, hb.s1, hb.s0]
      simp only [valuesE, List.length_map] at *
      grind
  ·
   refine WP.reg tabOk rfl ?_
   refine um ?_
   refine ub ?_
   refine ub ?_
   refine um ?_
   apply gT
   · rfl
   · intro hg
     exact pf th72 th70 hb2
   apply gT
   · rfl
   · intro hg; try simp only [hg, ct]; try simp only [hg, ct, Bt]
     exact pl th70 hb2
   apply gT
   · rfl
   · intro hg; try simp only [hg, ct]; try simp only [hg, ct, Bt]
     exact pn th70
   apply gT
   · rfl
   · intro hg; try simp only [hg, ct]; try simp only [hg, ct, Bt]
     exact pb
   refine uA ?_
   refine ua ?_
   refine u_nil ?_
   refine hK4 _ ?_
   refine wc (fun hc27 => ?_) (fun hc27 => ?_) <;> try simp only [Q0, Q1, Q2, Q3, Q4, Q5, Q6, Q7, Q8, ge_iff_le, gt_iff_lt] at hc27
   ·
    refine wr ?_
    refine ua ?_
    refine u_nil ?_
    refine WP.ret ?_
    refine ret_ok rfl ?_ (by omega) (fun t ht => (hk2 t (by omega)))
    -- ret 9
    clear hK3 hK4
    refine congrArg D.bool ?_
    try simp only [hb.t1, hb.t0, hb.c1, hb.c0, hb.i1, hb.i0, hb.d1, hb.d0, hb.s1, hb.s0] at hc6 hc17 hc27
    try simp only [hb.t1, hb.t0, hb.c1, hb.c0, hb.i1, hb.i0, hb.d1, hb.d0, hb.s1, hb.s0]
    simp only [valuesE, List.length_map] at *
    grind
   ·
    refine wr ?_
    refine um ?_
    refine ub ?_
    refine ub ?_
    refine um ?_
    apply gT
    · rfl
    · intro hg
      exact pf th72 th69 hb2
    apply gT
    · rfl
    · intro hg; try simp only [hg, ct]; try simp only [hg, ct, Bt]
      exact pg th69 hb2
    apply gT
    · rfl
    · intro hg; try simp only [hg, ct]; try simp only [hg, ct, Bt]
      refine o_pcall (pv (v := e.id) (s164 e.id ok.ri ok.si)) rfl ⟨rfl, rfl, rfl⟩
    apply gT
    · rfl
    · intro hg; try simp only [hg, ct]; try simp only [hg, ct, Bt]
      exact pb
    refine uA ?_
    refine ua ?_
    refine u_nil ?_
    refine wc (fun hc30 => ?_) (fun hc30 => ?_) <;> try simp only [Q0, Q1, Q2, Q3, Q4, Q5, Q6, Q7, Q8, ge_iff_le, gt_iff_lt] at hc30
    ·
     refine wr ?_
     refine ua ?_
     refine u_nil ?_
     refine WP.ret ?_
     refine ret_ok rfl ?_ (by omega) (fun t ht => (hk2 t (by omega)))
     -- ret 10
     clear hK3 hK4
     refine congrArg D.bool ?_
     try simp only [hb.t1, hb.t0, hb.c1, hb.c0, hb.i1, hb.i0, hb.d1, hb.d0, hb.s1, hb.s0] at hc6 hc17 hc27 hc30
     try simp only [hb.t1, hb.t0, hb.c1, hb.c0, hb.i1, hb.i0, hb.d1, hb.d0, hb.s1, hb.s0]
     simp only [valuesE, List.length_map] at *
     grind
    ·
     refine wr ?_
     refine um ?_
     refine ub ?_
     refine ub ?_
     refine um ?_
     apply gT
     · rfl
     · intro hg
       exact pf th72 th69 hb2
     apply gT
     · rfl
     · intro hg; try simp only [hg, ct]; try simp only [hg, ct, Bt]
       exact pg th69 hb2
     apply gT
     · rfl
     · intro hg
       exact pf th72 th69 hb2
     apply gT
     · rfl
     · intro hg; try simp only [hg, ct]; try simp only [hg, ct, Bt]
       exact pg th69 hb2
     apply gT
     · rfl
     · intro hg; try simp only [hg, ct]; try simp only [hg, ct, Bt]
       refine o_pcall (pvE (v := e.doc) (w := e.id) (s174 e.doc e.id ok.rd ok.sd (by simp only [hb.d1] at hg; have hi := d_imp_i hg; have hq := hc30; simp only [hb.i1, hi, Bool.true_and, bne_eq_false_iff_eq] at hq; exact check_may hq))) rfl ⟨rfl, rfl, rfl⟩
     apply gT
     · rfl
     · intro hg; try simp only [hg, ct]; try simp only [hg, ct, Bt]
       exact pN
     refine uA ?_
     refine ua ?_
     refine u_nil ?_
     refine wc (fun hc33 => ?_) (fun hc33 => ?_) <;> try simp only [Q0, Q1, Q2, Q3, Q4, Q5, Q6, Q7, Q8, ge_iff_le, gt_iff_lt] at hc33
     ·
      refine wr ?_
      refine ua ?_
      refine u_nil ?_
      refine WP.ret ?_
      refine ret_ok rfl ?_ (by omega) (fun t ht => (hk2 t (by omega)))
      -- ret 11
      clear hK3 hK4
      refine congrArg D.bool ?_
      try simp only [hb.t1, hb.t0, hb.c1, hb.c0, hb.i1, hb.i0, hb.d1, hb.d0, hb.s1, hb.s0] at hc6 hc17 hc27 hc30 hc33
      try simp only [hb.t1, hb.t0, hb.c1, hb.c0, hb.i1, hb.i0, hb.d1, hb.d0, hb.s1, hb.s0]
      simp only [valuesE, List.length_map] at *
      grind
     ·
      refine WP.skip ?_
      refine hK3 _ ?_
      refine wr ?_
      refine um ?_
      refine ub ?_
      refine ub ?_
      refine um ?_
      apply gF
      · rfl
      · intro hg
        exact pf th72 th70 hb2
      apply gF
      · rfl
      · intro hg; try simp only [hg, ct]; try simp only [hg, ct, Bt]
        exact pl th70 hb2
      apply gF
      · rfl
      · intro hg; try simp only [hg, ct]; try simp only [hg, ct, Bt]
        refine o_pcall (s175 e.deltas ok.ds) rfl ⟨rfl, rfl, rfl⟩
      refine uO ?_
      refine ua ?_
      refine u_nil ?_
      refine WP.ret ?_
      refine ret_ok rfl ?_ (by omega) (fun t ht => (hk2 t (by omega)))
      -- ret 12
      clear hK3 hK4
      refine congrArg D.bool ?_
      try simp only [hb.t1, hb.t0, hb.c1, hb.c0, hb.i1, hb.i0, hb.d1, hb.d0, hb.s1, hb.s0] at hc6 hc17 hc27 hc30 hc33
      try simp only [hb.t1, hb.t0, hb.c1, hb.c0, hb.i1, hb.i0, hb.d1, hb.d0, hb.s1, hb.s0]
      simp only [valuesE, List.length_map] at *
      grind

end Go.Proofs.YtmielecljgfnaaaGreat.Abs

set_option linter.unusedVariables false
set_option linter.unusedSimpArgs false
set_option maxRecDepth 10000
namespace Go.Proofs.YtmielecljgfnaaaGreat.Abs
open Go
theorem may_split {e : Etr} {b : Bool} (h : fieldsV e.kind < 0 → b = true) : b = false → 1 ≤ e.kind ∧ e.kind ≤ 7 := fun hb => by
  have := fields_ok e.kind
  by_cases hf : fieldsV e.kind < 0
  · rw [h hf] at hb; cases hb
  · rw [decide_eq_false hf] at this
    simpa using this.symm

theorem fn60 : FnOk Tryz.prog 60 48 [2] (bodyOf Tryz.f60) := ⟨Tryz.f60, Tryz.func60, by kernel_rfl, by decide, by kernel_rfl, by kernel_rfl⟩
theorem s60 (e : Etr) (ok : OkE e) : PSpec Tryz.prog 60 [.d (encE e)] (.d (.bool (mayE e))) := by
 refine PSpec.of fn60 (by simp) fun o nk => ?_
 refine wr ?_
 refine u_step (g_box rfl fun o2 hb2 hk2 => ?_)
 refine ua ?_
 refine u_nil ?_
 refine wr ?_
 refine uf th72 th3 hb2 ?_
 refine ul th3 hb2 ?_
 refine u_step (o_pcall (s113 e.kind) rfl ?_)
 refine ua ?_
 refine u_nil ?_
 refine WP.seq fun K4 hK4 => ?_
 refine wr ?_
 refine um ?_
 refine ub ?_
 refine um ?_
 apply gF
 · rfl
 · intro hg
   exact pf th72 th3 hb2
 apply gF
 · rfl
 · intro hg; try simp only [hg, ct]; try simp only [hg, ct, Bt]
   exact pl th3 hb2
 apply gF
 · rfl
 · intro hg; try simp only [hg, ct]; try simp only [hg, ct, Bt]
   refine o_pcall (s114 e.term _) rfl ⟨rfl, rfl, rfl⟩
 apply gF
 · rfl
 · intro hg; try simp only [hg, ct]; try simp only [hg, ct, Bt]
   exact pN
 refine uO ?_
 refine um ?_
 apply gF
 · rfl
 · intro hg
   exact pf th72 th3 hb2
 apply gF
 · rfl
 · intro hg; try simp only [hg, ct]; try simp only [hg, ct, Bt]
   exact pl th3 hb2
 apply gF
 · rfl
 · intro hg; try simp only [hg, ct]; try simp only [hg, ct, Bt]
   refine o_pcall (s114 e.session _) rfl ⟨rfl, rfl, rfl⟩
 apply gF
 · rfl
 · intro hg; try simp only [hg, ct]; try simp only [hg, ct, Bt]
   exact pN
 refine uO ?_
 refine um ?_
 apply gF
 · rfl
 · intro hg
   exact pf th72 th3 hb2
 apply gF
 · rfl
 · intro hg; try simp only [hg, ct]; try simp only [hg, ct, Bt]
   exact pl th3 hb2
 apply gF
 · rfl
 · intro hg; try simp only [hg, ct]; try simp only [hg, ct, Bt]
   refine o_pcall (s114 e.number _) rfl ⟨rfl, rfl, rfl⟩
 apply gF
 · rfl
 · intro hg; try simp only [hg, ct]; try simp only [hg, ct, Bt]
   exact pN
 refine uO ?_
 refine u_nil ?_
 refine wc (fun hc6 => ?_) (fun hc6 => ?_) <;> try simp only [Q0, Q1, Q2, Q3, Q4, Q5, Q6, Q7, Q8, ge_iff_le, gt_iff_lt] at hc6
 ·
  refine wr ?_
  refine ua ?_
  refine u_nil ?_
  refine WP.ret ?_
  refine ret_ok rfl ?_ (by omega) (fun t ht => (hk2 t (by omega)))
  -- ret 1
  clear hK4
  refine congrArg D.bool ?_
  have hfk := fields_ok e.kind
  simp only [decide_eq_true_eq, decide_eq_false_iff_not, mayE] at *
  grind
 ·
  have hk := may_split (e := e) (b := _) (fun hf => by simp [hf]) hc6
  refine WP.skip ?_
  refine hK4 _ ?_
  refine WP.seq fun K8 hK8 => ?_
  refine wr ?_
  refine uf th72 th3 hb2 ?_
  refine ul th3 hb2 ?_
  refine ub ?_
  refine um ?_
  apply gT
  · rfl
  · intro hg
    exact pf th72 th3 hb2
  apply gT
  · rfl
  · intro hg; try simp only [hg, ct]; try simp only [hg, ct, Bt]
    exact pl th3 hb2
  apply gT
  · rfl
  · intro hg; try simp only [hg, ct]; try simp only [hg, ct, Bt]
    exact pb
  apply gT
  · rfl
  · intro hg; try simp only [hg, ct]; try simp only [hg, ct, Bt]
    exact pm
  apply u_guard
  · exact GC.cf _ _
  · intro hg
    exact pf th72 th3 hb2
  apply u_guard
  · exact GC.cf _ _
  · intro hg; try simp only [hg, ct]; try simp only [hg, ct, Bt]
    exact pl th3 hb2
  apply u_guard
  · exact GC.cf _ _
  · intro hg; try simp only [hg, ct]; try simp only [hg, ct, Bt]
    exact pb
  apply gT
  · rfl
  · intro hg; try simp only [hg, ct]; try simp only [hg, ct, Bt]
    exact pO
  refine uA ?_
  refine u_nil ?_
  refine wc (fun hc10 => ?_) (fun hc10 => ?_) <;> try simp only [Q0, Q1, Q2, Q3, Q4, Q5, Q6, Q7, Q8, ge_iff_le, gt_iff_lt] at hc10
  ·
   refine wr ?_
   refine ua ?_
   refine u_nil ?_
   refine WP.ret ?_
   refine ret_ok rfl ?_ (by omega) (fun t ht => (hk2 t (by omega)))
   -- ret 2
   clear hK4 hK8
   refine congrArg D.bool ?_
   have hfk := fields_ok e.kind
   simp only [decide_eq_true_eq, decide_eq_false_iff_not, mayE] at *
   grind
  ·
   refine WP.skip ?_
   refine hK8 _ ?_
   refine wr ?_
   refine ug th72 hb2 ?_
   refine um ?_
   refine u_step (o_pcall (s115 e hk) rfl ?_)
   refine um ?_
   apply gT
   · rfl
   · intro hg
     exact pg th72 hb2
   apply gT
   · rfl
   · intro hg
     exact pm
   apply gT
   · rfl
   · intro hg; try simp only [hg, ct]; try simp only [hg, ct, Bt]
     refine o_pcall (s116 e hk ok) rfl ⟨rfl, rfl, rfl⟩
   refine uA ?_
   refine ua ?_
   refine u_nil ?_
   refine WP.ret ?_
   refine ret_ok rfl ?_ (by omega) (fun t ht => (hk2 t (by omega)))
   -- ret 3
   clear hK4 hK8
   refine congrArg D.bool ?_
   have hfk := fields_ok e.kind
   simp only [decide_eq_true_eq, decide_eq_false_iff_not, mayE] at *
   grind

theorem fn63 : FnOk Tryz.prog 63 160 [2] (bodyOf Tryz.f63) := ⟨Tryz.f63, Tryz.func63, by kernel_rfl, by decide, by kernel_rfl, by kernel_rfl⟩
theorem s63 (e : Etr) (ok : OkE e) : PSpec Tryz.prog 63 [.d (encE e)] (.d (.bool (mayE e))) := by
 refine PSpec.of fn63 (by simp) fun o nk => ?_
 refine wr ?_
 refine u_step (g_box rfl fun o2 hb2 hk2 => ?_)
 refine ua ?_
 refine u_nil ?_
 refine WP.seq fun K3 hK3 => ?_
 refine wr ?_
 refine uf th72 th3 hb2 ?_
 refine ul th3 hb2 ?_
 refine ub ?_
 refine um ?_
 apply gF
 · rfl
 · intro hg
   exact pf th72 th3 hb2
 apply gF
 · rfl
 · intro hg; try simp only [hg, ct]; try simp only [hg, ct, Bt]
   exact pl th3 hb2
 apply gF
 · rfl
 · intro hg; try simp only [hg, ct]; try simp only [hg, ct, Bt]
   exact pb
 refine uO ?_
 refine um ?_
 apply gF
 · rfl
 · intro hg
   exact pf th72 th3 hb2
 apply gF
 · rfl
 · intro hg; try simp only [hg, ct]; try simp only [hg, ct, Bt]
   exact pl th3 hb2
 apply gF
 · rfl
 · intro hg; try simp only [hg, ct]; try simp only [hg, ct, Bt]
   exact pb
 refine uO ?_
 refine um ?_
 apply gF
 · rfl
 · intro hg
   exact pf th72 th3 hb2
 apply gF
 · rfl
 · intro hg; try simp only [hg, ct]; try simp only [hg, ct, Bt]
   exact pl th3 hb2
 apply gF
 · rfl
 · intro hg; try simp only [hg, ct]; try simp only [hg, ct, Bt]
   exact pb
 refine uO ?_
 refine um ?_
 apply gF
 · rfl
 · intro hg
   exact pf th72 th3 hb2
 apply gF
 · rfl
 · intro hg; try simp only [hg, ct]; try simp only [hg, ct, Bt]
   exact pl th3 hb2
 apply gF
 · rfl
 · intro hg; try simp only [hg, ct]; try simp only [hg, ct, Bt]
   exact pb
 refine uO ?_
 refine um ?_
 apply gF
 · rfl
 · intro hg
   exact pf th72 th3 hb2
 apply gF
 · rfl
 · intro hg; try simp only [hg, ct]; try simp only [hg, ct, Bt]
   exact pl th3 hb2
 apply gF
 · rfl
 · intro hg; try simp only [hg, ct]; try simp only [hg, ct, Bt]
   exact pb
 refine uO ?_
 refine um ?_
 apply gF
 · rfl
 · intro hg
   exact pf th72 th3 hb2
 apply gF
 · rfl
 · intro hg; try simp only [hg, ct]; try simp only [hg, ct, Bt]
   exact pl th3 hb2
 apply gF
 · rfl
 · intro hg; try simp only [hg, ct]; try simp only [hg, ct, Bt]
   exact pb
 refine uO ?_
 refine um ?_
 apply gF
 · rfl
 · intro hg
   exact pf th72 th3 hb2
 apply gF
 · rfl
 · intro hg; try simp only [hg, ct]; try simp only [hg, ct, Bt]
   exact pl th3 hb2
 apply gF
 · rfl
 · intro hg; try simp only [hg, ct]; try simp only [hg, ct, Bt]
   exact pb
 refine uO ?_
 refine u_nil ?_
 refine wc (fun hc5 => ?_) (fun hc5 => ?_) <;> try simp only [Q0, Q1, Q2, Q3, Q4, Q5, Q6, Q7, Q8, ge_iff_le, gt_iff_lt] at hc5
 ·
  refine wr ?_
  refine ua ?_
  refine u_nil ?_
  refine WP.ret ?_
  refine ret_ok rfl ?_ (by omega) (fun t ht => (hk2 t (by omega)))
  -- ret 1
  clear hK3
  refine congrArg D.bool ?_
  have hcn := coll_nil
  have hdi := @d_imp_i e.kind
  have hl0 : e.deltas.length = 0 ↔ e.deltas = [] := List.length_eq_zero_iff
  simp only [mayE, namesE, valuesE, List.length_map] at *
  grind
 ·
  refine WP.skip ?_
  refine hK3 _ ?_
  refine wr ?_
  refine uf th72 th3 hb2 ?_
  refine ul th3 hb2 ?_
  refine u_step (o_pcall (s117b e.kind) rfl ?_)
  refine u_step (o_moveV (v := .tup _) rfl ?_)
  refine ue ?_
  refine ue ?_
  refine ue ?_
  refine ue ?_
  refine ue ?_
  refine ua ?_
  refine ua ?_
  refine ua ?_
  refine ua ?_
  refine ua ?_
  refine u_nil ?_
  refine WP.seq fun K8 hK8 => ?_
  refine wr ?_
  refine um ?_
  refine uf th72 th9 hb2 ?_
  refine ul th9 hb2 ?_
  refine u_step (o_bin_str rfl (show _ = SV.d (.str []) from rfl) rfl ?_)
  refine u_step (o_bin_neb rfl rfl th4 rfl ?_)
  refine um ?_
  apply gF
  · rfl
  · intro hg
    exact pm
  apply gF
  · rfl
  · intro hg; try simp only [hg, ct]; try simp only [hg, ct, Bt]
    exact pm
  apply u_guard
  · exact GC.ct _ _
  · intro hg
    exact pf th72 th9 hb2
  apply u_guard
  · exact GC.ct _ _
  · intro hg; try simp only [hg, ct]; try simp only [hg, ct, Bt]
    exact pl th9 hb2
  apply u_guard
  · exact GC.ct _ _
  · intro hg; try simp only [hg, ct]; try simp only [hg, ct, Bt]
    refine o_pcall (s110 e.coll) rfl ⟨rfl, rfl, rfl⟩
  apply u_guard
  · exact GC.ct _ _
  · intro hg; try simp only [hg, ct]; try simp only [hg, ct, Bt]
    exact pN
  apply gF
  · rfl
  · intro hg; try simp only [hg, ct]; try simp only [hg, ct, Bt]
    exact pA
  refine uO ?_
  refine um ?_
  apply gF
  · rfl
  · intro hg
    exact pm
  apply gF
  · rfl
  · intro hg
    exact pf th72 th9 hb2
  apply gF
  · rfl
  · intro hg; try simp only [hg, ct]; try simp only [hg, ct, Bt]
    exact pl th9 hb2
  apply gF
  · rfl
  · intro hg; try simp only [hg, ct]; try simp only [hg, ct, Bt]
    refine o_bin_str rfl (show _ = SV.d (.str []) from rfl) rfl ⟨rfl, rfl, rfl⟩
  apply gF
  · rfl
  · intro hg; try simp only [hg, ct]; try simp only [hg, ct, Bt]
    refine o_bin_neb rfl rfl th4 rfl ⟨rfl, rfl, rfl⟩
  refine uO ?_
  refine um ?_
  apply gF
  · rfl
  · intro hg
    exact pm
  apply gF
  · rfl
  · intro hg; try simp only [hg, ct]; try simp only [hg, ct, Bt]
    exact pm
  apply u_guard
  · exact GC.ct _ _
  · intro hg
    exact pf th72 th9 hb2
  apply u_guard
  · exact GC.ct _ _
  · intro hg; try simp only [hg, ct]; try simp only [hg, ct, Bt]
    exact pl th9 hb2
  apply u_guard
  · exact GC.ct _ _
  · intro hg; try simp only [hg, ct]; try simp only [hg, ct, Bt]
    refine o_pcall (s110 e.to) rfl ⟨rfl, rfl, rfl⟩
  apply u_guard
  · exact GC.ct _ _
  · intro hg; try simp only [hg, ct]; try simp only [hg, ct, Bt]
    exact pN
  apply u_guard
  · exact GC.ct _ _
  · intro hg; try simp only [hg, ct]; try simp only [hg, ct, Bt]
    exact pm
  apply u_guard
  · exact GC.cf _ _
  · intro hg
    exact pf th72 th9 hb2
  apply u_guard
  · exact GC.cf _ _
  · intro hg; try simp only [hg, ct]; try simp only [hg, ct, Bt]
    exact pl th9 hb2
  apply u_guard
  · exact GC.cf _ _
  · intro hg
    exact pf th72 th9 hb2
  apply u_guard
  · exact GC.cf _ _
  · intro hg; try simp only [hg, ct]; try simp only [hg, ct, Bt]
    exact pl th9 hb2
  apply u_guard
  · exact GC.cf _ _
  · intro hg; try simp only [hg, ct]; try simp only [hg, ct, Bt]
    exact ps
  apply u_guard
  · exact GC.ct _ _
  · intro hg; try simp only [hg, ct]; try simp only [hg, ct, Bt]
    exact pO
  apply gF
  · rfl
  · intro hg; try simp only [hg, ct]; try simp only [hg, ct, Bt]
    exact pA
  refine uO ?_
  refine u_nil ?_
  refine wc (fun hc10 => ?_) (fun hc10 => ?_) <;> try simp only [Q0, Q1, Q2, Q3, Q4, Q5, Q6, Q7, Q8, ge_iff_le, gt_iff_lt] at hc10
  ·
   refine wr ?_
   refine ua ?_
   refine u_nil ?_
   refine WP.ret ?_
   refine ret_ok rfl ?_ (by omega) (fun t ht => (hk2 t (by omega)))
   -- ret 2
   clear hK3 hK8
   refine congrArg D.bool ?_
   have hcn := coll_nil
   have hdi := @d_imp_i e.kind
   have hl0 : e.deltas.length = 0 ↔ e.deltas = [] := List.length_eq_zero_iff
   simp only [mayE, namesE, valuesE, List.length_map] at *
   grind
  ·
   refine WP.skip ?_
   refine hK8 _ ?_
   refine WP.seq fun K12 hK12 => ?_
   refine wr ?_
   refine um ?_
   refine uN ?_
   refine um ?_
   apply gT
   · rfl
   · intro hg
     exact pf th72 th69 hb2
   apply gT
   · rfl
   · intro hg; try simp only [hg, ct]; try simp only [hg, ct, Bt]
     exact pg th69 hb2
   apply gT
   · rfl
   · intro hg; try simp only [hg, ct]; try simp only [hg, ct, Bt]
     refine o_pcall (pv (v := e.id) (s118 e.id)) rfl ⟨rfl, rfl, rfl⟩
   apply gT
   · rfl
   · intro hg; try simp only [hg, ct]; try simp only [hg, ct, Bt]
     exact pN
   refine uA ?_
   refine um ?_
   apply gF
   · rfl
   · intro hg
     exact pm
   apply gF
   · rfl
   · intro hg; try simp only [hg, ct]; try simp only [hg, ct, Bt]
     exact pm
   apply u_guard
   · exact GC.ct _ _
   · intro hg
     exact pf th72 th69 hb2
   apply u_guard
   · exact GC.ct _ _
   · intro hg; try simp only [hg, ct]; try simp only [hg, ct, Bt]
     exact pg th69 hb2
   apply u_guard
   · exact GC.ct _ _
   · intro hg; try simp only [hg, ct]; try simp only [hg, ct, Bt]
     refine o_pcall (pv (v := e.id) (s119 e.id ok.ri ok.si)) rfl ⟨rfl, rfl, rfl⟩
   apply u_guard
   · exact GC.ct _ _
   · intro hg; try simp only [hg, ct]; try simp only [hg, ct, Bt]
     exact pb
   apply gF
   · rfl
   · intro hg; try simp only [hg, ct]; try simp only [hg, ct, Bt]
     exact pA
   refine uO ?_
   refine u_nil ?_
   refine wc (fun hc14 => ?_) (fun hc14 => ?_) <;> try simp only [Q0, Q1, Q2, Q3, Q4, Q5, Q6, Q7, Q8, ge_iff_le, gt_iff_lt] at hc14
   ·
    refine wr ?_
    refine ua ?_
    refine u_nil ?_
    refine WP.ret ?_
    refine ret_ok rfl ?_ (by omega) (fun t ht => (hk2 t (by omega)))
    -- ret 3
    clear hK3 hK8 hK12
    refine congrArg D.bool ?_
    have hcn := coll_nil
    have hdi := @d_imp_i e.kind
    have hl0 : e.deltas.length = 0 ↔ e.deltas = [] := List.length_eq_zero_iff
    simp only [mayE, namesE, valuesE, List.length_map] at *
    grind
   ·
    refine WP.skip ?_
    refine hK12 _ ?_
    refine WP.seq fun K16 hK16 => ?_
    refine wr ?_
    refine um ?_
    refine uN ?_
    refine um ?_
    apply gT
    · rfl
    · intro hg
      exact pf th72 th69 hb2
    apply gT
    · rfl
    · intro hg; try simp only [hg, ct]; try simp only [hg, ct, Bt]
      exact pg th69 hb2
    apply gT
    · rfl
    · intro hg; try simp only [hg, ct]; try simp only [hg, ct, Bt]
      refine o_pcall (pv (v := e.doc) (s118 e.doc)) rfl ⟨rfl, rfl, rfl⟩
    apply gT
    · rfl
    · intro hg; try simp only [hg, ct]; try simp only [hg, ct, Bt]
      exact pN
    refine uA ?_
    refine um ?_
    apply gF
    · rfl
    · intro hg
      exact pm
    apply gF
    · rfl
    · intro hg; try simp only [hg, ct]; try simp only [hg, ct, Bt]
      exact pm
    apply u_guard
    · exact GC.ct _ _
    · intro hg
      exact pf th72 th69 hb2
    apply u_guard
    · exact GC.ct _ _
    · intro hg; try simp only [hg, ct]; try simp only [hg, ct, Bt]
      exact pg th69 hb2
    apply u_guard
    · exact GC.ct _ _
    · intro hg
      exact pf th72 th69 hb2
    apply u_guard
    · exact GC.ct _ _
    · intro hg; try simp only [hg, ct]; try simp only [hg, ct, Bt]
      exact pg th69 hb2
    apply u_guard
    · exact GC.ct _ _
    · intro hg; try simp only [hg, ct]; try simp only [hg, ct, Bt]
      refine o_pcall (pvE (v := e.doc) (w := e.id) (s120 e.doc e.id ok.rd ok.sd)) rfl ⟨rfl, rfl, rfl⟩
    apply u_guard
    · exact GC.ct _ _
    · intro hg; try simp only [hg, ct]; try simp only [hg, ct, Bt]
      exact pN
    apply gF
    · rfl
    · intro hg; try simp only [hg, ct]; try simp only [hg, ct, Bt]
      exact pA
    refine uO ?_
    refine um ?_
    apply gF
    · rfl
    · intro hg
      exact pm
    apply gF
    · rfl
    · intro hg; try simp only [hg, ct]; try simp only [hg, ct, Bt]
      exact pN
    apply gF
    · rfl
    · intro hg; try simp only [hg, ct]; try simp only [hg, ct, Bt]
      exact pm
    apply u_guard
    · exact GC.ct _ _
    · intro hg
      exact pf th72 th70 hb2
    apply u_guard
    · exact GC.ct _ _
    · intro hg; try simp only [hg, ct]; try simp only [hg, ct, Bt]
      exact pl th70 hb2
    apply u_guard
    · exact GC.ct _ _
    · intro hg; try simp only [hg, ct]; try simp only [hg, ct, Bt]
      exact pn th70
    apply u_guard
    · exact GC.ct _ _
    · intro hg; try simp only [hg, ct]; try simp only [hg, ct, Bt]
      exact pb
    apply gF
    · rfl
    · intro hg; try simp only [hg, ct]; try simp only [hg, ct, Bt]
      exact pA
    refine uO ?_
    refine um ?_
    apply gF
    · rfl
    · intro hg
      exact pm
    apply gF
    · rfl
    · intro hg; try simp only [hg, ct]; try simp only [hg, ct, Bt]
      exact pm
    apply u_guard
    · exact GC.ct _ _
    · intro hg
      exact pf th72 th70 hb2
    apply u_guard
    · exact GC.ct _ _
    · intro hg; try simp only [hg, ct]; try simp only [hg, ct, Bt]
      exact pl th70 hb2
    apply u_guard
    · exact GC.ct _ _
    · intro hg; try simp only [hg, ct]; try simp only [hg, ct, Bt]
      refine o_pcall (s121 e.deltas ok.ds) rfl ⟨rfl, rfl, rfl⟩
    apply u_guard
    · exact GC.ct _ _
    · intro hg; try simp only [hg, ct]; try simp only [hg, ct, Bt]
      exact pN
    apply gF
    · rfl
    · intro hg; try simp only [hg, ct]; try simp only [hg, ct, Bt]
      exact pA
    refine uO ?_
    refine u_nil ?_
    refine wc (fun hc18 => ?_) (fun hc18 => ?_) <;> try simp only [Q0, Q1, Q2, Q3, Q4, Q5, Q6, Q7, Q8, ge_iff_le, gt_iff_lt] at hc18
    ·
     refine wr ?_
     refine ua ?_
     refine u_nil ?_
     refine WP.ret ?_
     refine ret_ok rfl ?_ (by omega) (fun t ht => (hk2 t (by omega)))
     -- ret 4
     clear hK3 hK8 hK12 hK16
     refine congrArg D.bool ?_
     have hcn := coll_nil
     have hdi := @d_imp_i e.kind
     have hl0 : e.deltas.length = 0 ↔ e.deltas = [] := List.length_eq_zero_iff
     simp only [mayE, namesE, valuesE, List.length_map] at *
     grind
    ·
     refine WP.skip ?_
     refine hK16 _ ?_
     refine wr ?_
     refine uf th72 th3 hb2 ?_
     refine ul th3 hb2 ?_
     refine ub ?_
     refine um ?_
     apply gF
     · rfl
     · intro hg
       exact pf th72 th3 hb2
     apply gF
     · rfl
     · intro hg; try simp only [hg, ct]; try simp only [hg, ct, Bt]
       exact pl th3 hb2
     apply gF
     · rfl
     · intro hg; try simp only [hg, ct]; try simp only [hg, ct, Bt]
       exact pb
     apply gF
     · rfl
     · intro hg; try simp only [hg, ct]; try simp only [hg, ct, Bt]
       exact pm
     apply u_guard
     · exact GC.ct _ _
     · intro hg
       exact pf th72 th3 hb2
     apply u_guard
     · exact GC.ct _ _
     · intro hg; try simp only [hg, ct]; try simp only [hg, ct, Bt]
       exact pl th3 hb2
     apply u_guard
     · exact GC.ct _ _
     · intro hg; try simp only [hg, ct]; try simp only [hg, ct, Bt]
       exact pb
     apply gF
     · rfl
     · intro hg; try simp only [hg, ct]; try simp only [hg, ct, Bt]
       exact pA
     refine uO ?_
     refine ua ?_
     refine u_nil ?_
     refine WP.ret ?_
     refine ret_ok rfl ?_ (by omega) (fun t ht => (hk2 t (by omega)))
     -- ret 5
     clear hK3 hK8 hK12 hK16
     refine congrArg D.bool ?_
     have hcn := coll_nil
     have hdi := @d_imp_i e.kind
     have hl0 : e.deltas.length = 0 ↔ e.deltas = [] := List.length_eq_zero_iff
     simp only [mayE, namesE, valuesE, List.length_map] at *
     grind

end Go.Proofs.YtmielecljgfnaaaGreat.Abs

set_option linter.unusedVariables false
set_option linter.unusedSimpArgs false
namespace Go.Proofs.YtmielecljgfnaaaGreat.Abs
open Go
section
variable {P : Program} {Θ : Tab} {K : SV → (Nat → Option AO) → Nat → Prop} {sl : Nat → SV} {o : Nat → Option AO} {nk : Nat} {x y ix : Operand} {t e f : Nat}
end
section
variable {P : Program} {Θ : Tab} {ops : Array Oper} {K : St → Prop} {r : List Oper} {sl : Nat → SV} {d ty j lo m nk nk' : Nat} {o o' : Nat → Option AO} {op : Op} {pos : String} {af : Array Edge} {want c : Bool} {v : SV} {L : List Ob} {ks : List Kd}
end
end Go.Proofs.YtmielecljgfnaaaGreat.Abs
