/- Part 4 of the proof that DeltaReads: called with any bytes and any number that hold together at most 1048576 values and letters, the law answers true, and the bytes read afterwards as they read before. -/
import Derived.Test.YtpkcbdhjnnnkbaaGreatMDeltaReads3
import Derived.Laws.RangeAny
import Derived.Laws.RangeString
import Derived.LoopN
set_option linter.unusedVariables false
set_option linter.unusedSimpArgs false
set_option maxRecDepth 10000
namespace Go.Proofs.YtpkcbdhjnnnkbaaGreat.Abs
open Go

theorem fn130 : FnOk Tryz.prog 130 6 [2] (bodyOf Tryz.f130) := ⟨Tryz.f130, Tryz.func130, by kernel_rfl, by decide, by kernel_rfl, by kernel_rfl⟩
theorem s130 (x : Val) (h76 : PSpec Tryz.prog 76 [.d (encV x)] (.d (.bool (mayV x)))) : PSpec Tryz.prog 130 [.d (encV x)] (.d (.bool (!mayV x))) := by
 obtain ⟨kd, it, tx, xs, ns⟩ := x
 refine PSpec.of fn130 (by simp) fun o nk => ?_
 refine wr ?_
 refine u_step (g_box rfl fun o2 hb2 hk2 => ?_)
 refine ua ?_
 refine u_nil ?_
 refine wr ?_
 refine ug th27 hb2 ?_
 refine u_step (o_pcall (h76) rfl ?_)
 refine uN ?_
 refine ua ?_
 refine u_nil ?_
 refine WP.ret ?_
 refine ret_ok rfl ?_ (by omega) (fun t ht => (hk2 t (by omega)))
 -- ret 1
 rfl

theorem fn76 : FnOk Tryz.prog 76 109 [2] (bodyOf Tryz.f76) := ⟨Tryz.f76, Tryz.func76, by kernel_rfl, by decide, by kernel_rfl, by kernel_rfl⟩
theorem s76A (m : Nat) : ∀ v : Val, SizeOf.sizeOf v < m → PSpec Tryz.prog 76 [.d (encV v)] (.d (.bool (mayV v))) := by
 induction m with
 | zero => intros; omega
 | succ m ih =>
  rintro ⟨kd, it, tx, xs, ns⟩ hv
  refine PSpec.bd fun hbd => ?_
  refine PSpec.of fn76 (by simp) fun o nk => ?_
  refine wr ?_
  refine u_step (g_box rfl fun o2 hb2 hk2 => ?_)
  refine ua ?_
  refine u_nil ?_
  refine wr ?_
  refine uf th27 th3 hb2 ?_
  refine ul th3 hb2 ?_
  refine ub ?_
  refine um ?_
  apply gF
  · rfl
  · intro hg
    exact pf th27 th3 hb2
  apply gF
  · rfl
  · intro hg; try simp only [hg, ct]; try simp only [hg, ct, Bt]
    exact pl th3 hb2
  apply gF
  · rfl
  · intro hg; try simp only [hg, ct]; try simp only [hg, ct, Bt]
    exact pb
  refine uO ?_
  refine ua ?_
  refine u_nil ?_
  refine wr ?_
  refine uf th27 th3 hb2 ?_
  refine ul th3 hb2 ?_
  refine ub ?_
  refine um ?_
  apply gF
  · rfl
  · intro hg
    exact pf th27 th3 hb2
  apply gF
  · rfl
  · intro hg; try simp only [hg, ct]; try simp only [hg, ct, Bt]
    exact pl th3 hb2
  apply gF
  · rfl
  · intro hg; try simp only [hg, ct]; try simp only [hg, ct, Bt]
    exact pb
  refine uO ?_
  refine ua ?_
  refine u_nil ?_
  refine wr ?_
  refine uf th27 th3 hb2 ?_
  refine ul th3 hb2 ?_
  refine ub ?_
  refine um ?_
  apply gF
  · rfl
  · intro hg
    exact pf th27 th3 hb2
  apply gF
  · rfl
  · intro hg; try simp only [hg, ct]; try simp only [hg, ct, Bt]
    exact pl th3 hb2
  apply gF
  · rfl
  · intro hg; try simp only [hg, ct]; try simp only [hg, ct, Bt]
    exact pb
  refine uO ?_
  refine ua ?_
  refine u_nil ?_
  refine WP.seq fun K6 hK6 => ?_
  refine WP.block ?_
  refine wr ?_
  refine uf th27 th3 hb2 ?_
  refine ul th3 hb2 ?_
  refine ub ?_
  refine um ?_
  apply gF
  · rfl
  · intro hg
    exact pf th27 th3 hb2
  apply gF
  · rfl
  · intro hg; try simp only [hg, ct]; try simp only [hg, ct, Bt]
    exact pl th3 hb2
  apply gF
  · rfl
  · intro hg; try simp only [hg, ct]; try simp only [hg, ct, Bt]
    exact pb
  refine uO ?_
  refine ua ?_
  refine u_nil ?_
  refine wc (fun hc8 => ?_) (fun hc8 => ?_) <;> try simp only [Q0, Q1, Q2, Q3, Q4, Q5, Q6, Q7, Q8, ge_iff_le, gt_iff_lt] at hc8
  ·
   refine wr ?_
   refine ua ?_
   refine u_nil ?_
   refine WP.ret ?_
   refine ret_ok rfl ?_ (by omega) (fun t ht => (hk2 t (by omega)))
   -- ret 1
   clear hK6
   refine congrArg D.bool ?_
   have e1 := encVs_length xs
   clear hbd ih hv
   rw [Bool.eq_iff_iff]
   have hkd : kd < 1 ∨ 7 < kd ∨ kd = 1 ∨ kd = 2 ∨ kd = 3 ∨ kd = 4 ∨ kd = 5 ∨ kd = 6 ∨ kd = 7 := by omega
   rcases hkd with h | h | rfl | rfl | rfl | rfl | rfl | rfl | rfl <;> simp_all [mayV, maysV_all, kindOk, namesV]
   all_goals grind
  ·
   refine WP.seq fun K10 hK10 => ?_
   refine wr ?_
   refine uf th27 th25 hb2 ?_
   refine ul th25 hb2 ?_
   refine un th25 ?_
   refine ub ?_
   refine um ?_
   apply gT
   · rfl
   · intro hg
     exact pm
   apply gT
   · rfl
   · intro hg; try simp only [hg, ct]; try simp only [hg, ct, Bt]
     exact pN
   refine uA ?_
   refine ua ?_
   refine u_nil ?_
   refine wc (fun hc12 => ?_) (fun hc12 => ?_) <;> try simp only [Q0, Q1, Q2, Q3, Q4, Q5, Q6, Q7, Q8, ge_iff_le, gt_iff_lt] at hc12
   ·
    refine WP.skip ?_
    refine hK10 _ ?_
    refine wc (fun hc13 => ?_) (fun hc13 => ?_) <;> try simp only [Q0, Q1, Q2, Q3, Q4, Q5, Q6, Q7, Q8, ge_iff_le, gt_iff_lt] at hc13
    ·
     refine wr ?_
     refine ua ?_
     refine u_nil ?_
     refine WP.ret ?_
     refine ret_ok rfl ?_ (by omega) (fun t ht => (hk2 t (by omega)))
     -- ret 2
     clear hK6 hK10
     refine congrArg D.bool ?_
     have e1 := encVs_length xs
     clear hbd ih hv
     rw [Bool.eq_iff_iff]
     have hkd : kd < 1 ∨ 7 < kd ∨ kd = 1 ∨ kd = 2 ∨ kd = 3 ∨ kd = 4 ∨ kd = 5 ∨ kd = 6 ∨ kd = 7 := by omega
     rcases hkd with h | h | rfl | rfl | rfl | rfl | rfl | rfl | rfl <;> simp_all [mayV, maysV_all, kindOk, namesV]
     all_goals grind
    ·
     refine wr ?_
     refine uf th27 th3 hb2 ?_
     refine ul th3 hb2 ?_
     refine ub ?_
     refine um ?_
     apply gT
     · rfl
     · intro hg
       exact pf th27 th3 hb2
     apply gT
     · rfl
     · intro hg; try simp only [hg, ct]; try simp only [hg, ct, Bt]
       exact pl th3 hb2
     apply gT
     · rfl
     · intro hg; try simp only [hg, ct]; try simp only [hg, ct, Bt]
       exact pb
     refine uA ?_
     refine um ?_
     apply gT
     · rfl
     · intro hg
       exact pf th27 th3 hb2
     apply gT
     · rfl
     · intro hg; try simp only [hg, ct]; try simp only [hg, ct, Bt]
       exact pl th3 hb2
     apply gT
     · rfl
     · intro hg; try simp only [hg, ct]; try simp only [hg, ct, Bt]
       exact pb
     refine uA ?_
     refine ua ?_
     refine u_nil ?_
     refine wc (fun hc16 => ?_) (fun hc16 => ?_) <;> try simp only [Q0, Q1, Q2, Q3, Q4, Q5, Q6, Q7, Q8, ge_iff_le, gt_iff_lt] at hc16
     ·
      refine wr ?_
      refine ua ?_
      refine u_nil ?_
      refine WP.ret ?_
      refine ret_ok rfl ?_ (by omega) (fun t ht => (hk2 t (by omega)))
      -- ret 3
      clear hK6 hK10
      refine congrArg D.bool ?_
      have e1 := encVs_length xs
      clear hbd ih hv
      rw [Bool.eq_iff_iff]
      have hkd : kd < 1 ∨ 7 < kd ∨ kd = 1 ∨ kd = 2 ∨ kd = 3 ∨ kd = 4 ∨ kd = 5 ∨ kd = 6 ∨ kd = 7 := by omega
      rcases hkd with h | h | rfl | rfl | rfl | rfl | rfl | rfl | rfl <;> simp_all [mayV, maysV_all, kindOk, namesV]
      all_goals grind
     ·
      refine wr ?_
      refine uf th27 th3 hb2 ?_
      refine ul th3 hb2 ?_
      refine ub ?_
      refine um ?_
      apply gT
      · rfl
      · intro hg
        exact pf th27 th22 hb2
      apply gT
      · rfl
      · intro hg; try simp only [hg, ct]; try simp only [hg, ct, Bt]
        exact pl th22 hb2
      apply gT
      · rfl
      · intro hg; try simp only [hg, ct]; try simp only [hg, ct, Bt]
        exact pn th22
      apply gT
      · rfl
      · intro hg; try simp only [hg, ct]; try simp only [hg, ct, Bt]
        exact pb
      refine uA ?_
      refine ua ?_
      refine u_nil ?_
      refine wc (fun hc19 => ?_) (fun hc19 => ?_) <;> try simp only [Q0, Q1, Q2, Q3, Q4, Q5, Q6, Q7, Q8, ge_iff_le, gt_iff_lt] at hc19
      ·
       refine wr ?_
       refine ua ?_
       refine u_nil ?_
       refine WP.ret ?_
       refine ret_ok rfl ?_ (by omega) (fun t ht => (hk2 t (by omega)))
       -- ret 4
       clear hK6 hK10
       refine congrArg D.bool ?_
       have e1 := encVs_length xs
       clear hbd ih hv
       rw [Bool.eq_iff_iff]
       have hkd : kd < 1 ∨ 7 < kd ∨ kd = 1 ∨ kd = 2 ∨ kd = 3 ∨ kd = 4 ∨ kd = 5 ∨ kd = 6 ∨ kd = 7 := by omega
       rcases hkd with h | h | rfl | rfl | rfl | rfl | rfl | rfl | rfl <;> simp_all [mayV, maysV_all, kindOk, namesV]
       all_goals grind
      ·
       refine wr ?_
       refine uf th27 th3 hb2 ?_
       refine ul th3 hb2 ?_
       refine ub ?_
       refine um ?_
       apply gT
       · rfl
       · intro hg
         exact pf th27 th22 hb2
       apply gT
       · rfl
       · intro hg; try simp only [hg, ct]; try simp only [hg, ct, Bt]
         exact pl th22 hb2
       apply gT
       · rfl
       · intro hg; try simp only [hg, ct]; try simp only [hg, ct, Bt]
         exact pn th22
       apply gT
       · rfl
       · intro hg
         exact pf th27 th25 hb2
       apply gT
       · rfl
       · intro hg; try simp only [hg, ct]; try simp only [hg, ct, Bt]
         exact pl th25 hb2
       apply gT
       · rfl
       · intro hg; try simp only [hg, ct]; try simp only [hg, ct, Bt]
         exact pn th25
       apply gT
       · rfl
       · intro hg; try simp only [hg, ct]; try simp only [hg, ct, Bt]
         exact pb
       apply gT
       · rfl
       · intro hg; try simp only [hg, ct]; try simp only [hg, ct, Bt]
         exact pm
       apply u_guard
       · exact GC.cf _ _
       · intro hg
         exact pf th27 th22 hb2
       apply u_guard
       · exact GC.cf _ _
       · intro hg; try simp only [hg, ct]; try simp only [hg, ct, Bt]
         exact pl th22 hb2
       apply u_guard
       · exact GC.cf _ _
       · intro hg; try simp only [hg, ct]; try simp only [hg, ct, Bt]
         refine o_pcall (s128 ns) rfl ⟨rfl, rfl, rfl⟩
       apply u_guard
       · exact GC.cf _ _
       · intro hg; try simp only [hg, ct]; try simp only [hg, ct, Bt]
         exact pN
       apply gT
       · rfl
       · intro hg; try simp only [hg, ct]; try simp only [hg, ct, Bt]
         exact pO
       refine uA ?_
       refine ua ?_
       refine u_nil ?_
       refine wc (fun hc22 => ?_) (fun hc22 => ?_) <;> try simp only [Q0, Q1, Q2, Q3, Q4, Q5, Q6, Q7, Q8, ge_iff_le, gt_iff_lt] at hc22
       ·
        refine wr ?_
        refine ua ?_
        refine u_nil ?_
        refine WP.ret ?_
        refine ret_ok rfl ?_ (by omega) (fun t ht => (hk2 t (by omega)))
        -- ret 5
        clear hK6 hK10
        refine congrArg D.bool ?_
        have e1 := encVs_length xs
        clear hbd ih hv
        rw [Bool.eq_iff_iff]
        have hkd : kd < 1 ∨ 7 < kd ∨ kd = 1 ∨ kd = 2 ∨ kd = 3 ∨ kd = 4 ∨ kd = 5 ∨ kd = 6 ∨ kd = 7 := by omega
        rcases hkd with h | h | rfl | rfl | rfl | rfl | rfl | rfl | rfl <;> simp_all [mayV, maysV_all, kindOk, namesV]
        all_goals grind
       ·
        refine WP.skip ?_
        refine hK6 _ ?_
        refine wr ?_
        refine uf th27 th25 hb2 ?_
        refine ul th25 hb2 ?_
        refine u_step (o_scall (s129 xs 130 [] [] (fun x => !mayV x) (fun x hx => s130 x (ih x (by obtain ⟨j, hj, rfl⟩ := List.mem_iff_getElem.1 hx; exact items_lt' hj hv)) _ _)) rfl ?_)
        refine uN ?_
        refine ua ?_
        refine u_nil ?_
        refine WP.ret ?_
        refine ret_ok rfl ?_ (by omega) (fun t ht => (hk2 t (by omega)))
        -- ret 6
        clear hK6 hK10
        refine congrArg D.bool ?_
        have e1 := encVs_length xs
        clear hbd ih hv
        rw [Bool.eq_iff_iff]
        have hkd : kd < 1 ∨ 7 < kd ∨ kd = 1 ∨ kd = 2 ∨ kd = 3 ∨ kd = 4 ∨ kd = 5 ∨ kd = 6 ∨ kd = 7 := by omega
        rcases hkd with h | h | rfl | rfl | rfl | rfl | rfl | rfl | rfl <;> simp_all [mayV, maysV_all, kindOk, namesV]
        all_goals grind
   ·
    refine wr ?_
    refine uf th27 th3 hb2 ?_
    refine ul th3 hb2 ?_
    refine ub ?_
    refine um ?_
    apply gT
    · rfl
    · intro hg
      exact pm
    apply gT
    · rfl
    · intro hg; try simp only [hg, ct]; try simp only [hg, ct, Bt]
      exact pN
    refine uA ?_
    refine ua ?_
    refine u_nil ?_
    refine wc (fun hc26 => ?_) (fun hc26 => ?_) <;> try simp only [Q0, Q1, Q2, Q3, Q4, Q5, Q6, Q7, Q8, ge_iff_le, gt_iff_lt] at hc26
    ·
     refine WP.skip ?_
     refine hK10 _ ?_
     refine wc (fun hc27 => ?_) (fun hc27 => ?_) <;> try simp only [Q0, Q1, Q2, Q3, Q4, Q5, Q6, Q7, Q8, ge_iff_le, gt_iff_lt] at hc27
     ·
      refine wr ?_
      refine ua ?_
      refine u_nil ?_
      refine WP.ret ?_
      refine ret_ok rfl ?_ (by omega) (fun t ht => (hk2 t (by omega)))
      -- ret 7
      clear hK6 hK10
      refine congrArg D.bool ?_
      have e1 := encVs_length xs
      clear hbd ih hv
      rw [Bool.eq_iff_iff]
      have hkd : kd < 1 ∨ 7 < kd ∨ kd = 1 ∨ kd = 2 ∨ kd = 3 ∨ kd = 4 ∨ kd = 5 ∨ kd = 6 ∨ kd = 7 := by omega
      rcases hkd with h | h | rfl | rfl | rfl | rfl | rfl | rfl | rfl <;> simp_all [mayV, maysV_all, kindOk, namesV]
      all_goals grind
     ·
      refine wr ?_
      refine uf th27 th3 hb2 ?_
      refine ul th3 hb2 ?_
      refine ub ?_
      refine um ?_
      apply gT
      · rfl
      · intro hg
        exact pf th27 th3 hb2
      apply gT
      · rfl
      · intro hg; try simp only [hg, ct]; try simp only [hg, ct, Bt]
        exact pl th3 hb2
      apply gT
      · rfl
      · intro hg; try simp only [hg, ct]; try simp only [hg, ct, Bt]
        exact pb
      refine uA ?_
      refine um ?_
      apply gT
      · rfl
      · intro hg
        exact pf th27 th3 hb2
      apply gT
      · rfl
      · intro hg; try simp only [hg, ct]; try simp only [hg, ct, Bt]
        exact pl th3 hb2
      apply gT
      · rfl
      · intro hg; try simp only [hg, ct]; try simp only [hg, ct, Bt]
        exact pb
      refine uA ?_
      refine ua ?_
      refine u_nil ?_
      refine wc (fun hc30 => ?_) (fun hc30 => ?_) <;> try simp only [Q0, Q1, Q2, Q3, Q4, Q5, Q6, Q7, Q8, ge_iff_le, gt_iff_lt] at hc30
      ·
       refine wr ?_
       refine ua ?_
       refine u_nil ?_
       refine WP.ret ?_
       refine ret_ok rfl ?_ (by omega) (fun t ht => (hk2 t (by omega)))
       -- ret 8
       clear hK6 hK10
       refine congrArg D.bool ?_
       have e1 := encVs_length xs
       clear hbd ih hv
       rw [Bool.eq_iff_iff]
       have hkd : kd < 1 ∨ 7 < kd ∨ kd = 1 ∨ kd = 2 ∨ kd = 3 ∨ kd = 4 ∨ kd = 5 ∨ kd = 6 ∨ kd = 7 := by omega
       rcases hkd with h | h | rfl | rfl | rfl | rfl | rfl | rfl | rfl <;> simp_all [mayV, maysV_all, kindOk, namesV]
       all_goals grind
      ·
       refine wr ?_
       refine uf th27 th3 hb2 ?_
       refine ul th3 hb2 ?_
       refine ub ?_
       refine um ?_
       apply gT
       · rfl
       · intro hg
         exact pf th27 th22 hb2
       apply gT
       · rfl
       · intro hg; try simp only [hg, ct]; try simp only [hg, ct, Bt]
         exact pl th22 hb2
       apply gT
       · rfl
       · intro hg; try simp only [hg, ct]; try simp only [hg, ct, Bt]
         exact pn th22
       apply gT
       · rfl
       · intro hg; try simp only [hg, ct]; try simp only [hg, ct, Bt]
         exact pb
       refine uA ?_
       refine ua ?_
       refine u_nil ?_
       refine wc (fun hc33 => ?_) (fun hc33 => ?_) <;> try simp only [Q0, Q1, Q2, Q3, Q4, Q5, Q6, Q7, Q8, ge_iff_le, gt_iff_lt] at hc33
       ·
        refine wr ?_
        refine ua ?_
        refine u_nil ?_
        refine WP.ret ?_
        refine ret_ok rfl ?_ (by omega) (fun t ht => (hk2 t (by omega)))
        -- ret 9
        clear hK6 hK10
        refine congrArg D.bool ?_
        have e1 := encVs_length xs
        clear hbd ih hv
        rw [Bool.eq_iff_iff]
        have hkd : kd < 1 ∨ 7 < kd ∨ kd = 1 ∨ kd = 2 ∨ kd = 3 ∨ kd = 4 ∨ kd = 5 ∨ kd = 6 ∨ kd = 7 := by omega
        rcases hkd with h | h | rfl | rfl | rfl | rfl | rfl | rfl | rfl <;> simp_all [mayV, maysV_all, kindOk, namesV]
        all_goals grind
       ·
        refine wr ?_
        refine uf th27 th3 hb2 ?_
        refine ul th3 hb2 ?_
        refine ub ?_
        refine um ?_
        apply gT
        · rfl
        · intro hg
          exact pf th27 th22 hb2
        apply gT
        · rfl
        · intro hg; try simp only [hg, ct]; try simp only [hg, ct, Bt]
          exact pl th22 hb2
        apply gT
        · rfl
        · intro hg; try simp only [hg, ct]; try simp only [hg, ct, Bt]
          exact pn th22
        apply gT
        · rfl
        · intro hg
          exact pf th27 th25 hb2
        apply gT
        · rfl
        · intro hg; try simp only [hg, ct]; try simp only [hg, ct, Bt]
          exact pl th25 hb2
        apply gT
        · rfl
        · intro hg; try simp only [hg, ct]; try simp only [hg, ct, Bt]
          exact pn th25
        apply gT
        · rfl
        · intro hg; try simp only [hg, ct]; try simp only [hg, ct, Bt]
          exact pb
        apply gT
        · rfl
        · intro hg; try simp only [hg, ct]; try simp only [hg, ct, Bt]
          exact pm
        apply u_guard
        · exact GC.cf _ _
        · intro hg
          exact pf th27 th22 hb2
        apply u_guard
        · exact GC.cf _ _
        · intro hg; try simp only [hg, ct]; try simp only [hg, ct, Bt]
          exact pl th22 hb2
        apply u_guard
        · exact GC.cf _ _
        · intro hg; try simp only [hg, ct]; try simp only [hg, ct, Bt]
          refine o_pcall (s128 ns) rfl ⟨rfl, rfl, rfl⟩
        apply u_guard
        · exact GC.cf _ _
        · intro hg; try simp only [hg, ct]; try simp only [hg, ct, Bt]
          exact pN
        apply gT
        · rfl
        · intro hg; try simp only [hg, ct]; try simp only [hg, ct, Bt]
          exact pO
        refine uA ?_
        refine ua ?_
        refine u_nil ?_
        refine wc (fun hc36 => ?_) (fun hc36 => ?_) <;> try simp only [Q0, Q1, Q2, Q3, Q4, Q5, Q6, Q7, Q8, ge_iff_le, gt_iff_lt] at hc36
        ·
         refine wr ?_
         refine ua ?_
         refine u_nil ?_
         refine WP.ret ?_
         refine ret_ok rfl ?_ (by omega) (fun t ht => (hk2 t (by omega)))
         -- ret 10
         clear hK6 hK10
         refine congrArg D.bool ?_
         have e1 := encVs_length xs
         clear hbd ih hv
         rw [Bool.eq_iff_iff]
         have hkd : kd < 1 ∨ 7 < kd ∨ kd = 1 ∨ kd = 2 ∨ kd = 3 ∨ kd = 4 ∨ kd = 5 ∨ kd = 6 ∨ kd = 7 := by omega
         rcases hkd with h | h | rfl | rfl | rfl | rfl | rfl | rfl | rfl <;> simp_all [mayV, maysV_all, kindOk, namesV]
         all_goals grind
        ·
         refine WP.skip ?_
         refine hK6 _ ?_
         refine wr ?_
         refine uf th27 th25 hb2 ?_
         refine ul th25 hb2 ?_
         refine u_step (o_scall (s129 xs 130 [] [] (fun x => !mayV x) (fun x hx => s130 x (ih x (by obtain ⟨j, hj, rfl⟩ := List.mem_iff_getElem.1 hx; exact items_lt' hj hv)) _ _)) rfl ?_)
         refine uN ?_
         refine ua ?_
         refine u_nil ?_
         refine WP.ret ?_
         refine ret_ok rfl ?_ (by omega) (fun t ht => (hk2 t (by omega)))
         -- ret 11
         clear hK6 hK10
         refine congrArg D.bool ?_
         have e1 := encVs_length xs
         clear hbd ih hv
         rw [Bool.eq_iff_iff]
         have hkd : kd < 1 ∨ 7 < kd ∨ kd = 1 ∨ kd = 2 ∨ kd = 3 ∨ kd = 4 ∨ kd = 5 ∨ kd = 6 ∨ kd = 7 := by omega
         rcases hkd with h | h | rfl | rfl | rfl | rfl | rfl | rfl | rfl <;> simp_all [mayV, maysV_all, kindOk, namesV]
         all_goals grind
    ·
     refine WP.reg tabOk rfl ?_
     refine uf th27 th9 hb2 ?_
     refine ul th9 hb2 ?_
     refine u_step (o_bin_str rfl (show _ = SV.d (.str []) from rfl) rfl ?_)
     refine um ?_
     apply gT
     · rfl
     · intro hg
       exact pm
     apply gT
     · rfl
     · intro hg; try simp only [hg, ct]; try simp only [hg, ct, Bt]
       exact pN
     refine uA ?_
     refine ua ?_
     refine u_nil ?_
     refine hK10 _ ?_
     refine wc (fun hc39 => ?_) (fun hc39 => ?_) <;> try simp only [Q0, Q1, Q2, Q3, Q4, Q5, Q6, Q7, Q8, ge_iff_le, gt_iff_lt] at hc39
     ·
      refine wr ?_
      refine ua ?_
      refine u_nil ?_
      refine WP.ret ?_
      refine ret_ok rfl ?_ (by omega) (fun t ht => (hk2 t (by omega)))
      -- ret 12
      clear hK6 hK10
      refine congrArg D.bool ?_
      have e1 := encVs_length xs
      clear hbd ih hv
      rw [Bool.eq_iff_iff]
      have hkd : kd < 1 ∨ 7 < kd ∨ kd = 1 ∨ kd = 2 ∨ kd = 3 ∨ kd = 4 ∨ kd = 5 ∨ kd = 6 ∨ kd = 7 := by omega
      rcases hkd with h | h | rfl | rfl | rfl | rfl | rfl | rfl | rfl <;> simp_all [mayV, maysV_all, kindOk, namesV]
      all_goals grind
     ·
      refine wr ?_
      refine uf th27 th3 hb2 ?_
      refine ul th3 hb2 ?_
      refine ub ?_
      refine um ?_
      apply gT
      · rfl
      · intro hg
        exact pf th27 th3 hb2
      apply gT
      · rfl
      · intro hg; try simp only [hg, ct]; try simp only [hg, ct, Bt]
        exact pl th3 hb2
      apply gT
      · rfl
      · intro hg; try simp only [hg, ct]; try simp only [hg, ct, Bt]
        exact pb
      refine uA ?_
      refine um ?_
      apply gT
      · rfl
      · intro hg
        exact pf th27 th3 hb2
      apply gT
      · rfl
      · intro hg; try simp only [hg, ct]; try simp only [hg, ct, Bt]
        exact pl th3 hb2
      apply gT
      · rfl
      · intro hg; try simp only [hg, ct]; try simp only [hg, ct, Bt]
        exact pb
      refine uA ?_
      refine ua ?_
      refine u_nil ?_
      refine wc (fun hc42 => ?_) (fun hc42 => ?_) <;> try simp only [Q0, Q1, Q2, Q3, Q4, Q5, Q6, Q7, Q8, ge_iff_le, gt_iff_lt] at hc42
      ·
       refine wr ?_
       refine ua ?_
       refine u_nil ?_
       refine WP.ret ?_
       refine ret_ok rfl ?_ (by omega) (fun t ht => (hk2 t (by omega)))
       -- ret 13
       clear hK6 hK10
       refine congrArg D.bool ?_
       have e1 := encVs_length xs
       clear hbd ih hv
       rw [Bool.eq_iff_iff]
       have hkd : kd < 1 ∨ 7 < kd ∨ kd = 1 ∨ kd = 2 ∨ kd = 3 ∨ kd = 4 ∨ kd = 5 ∨ kd = 6 ∨ kd = 7 := by omega
       rcases hkd with h | h | rfl | rfl | rfl | rfl | rfl | rfl | rfl <;> simp_all [mayV, maysV_all, kindOk, namesV]
       all_goals grind
      ·
       refine wr ?_
       refine uf th27 th3 hb2 ?_
       refine ul th3 hb2 ?_
       refine ub ?_
       refine um ?_
       apply gT
       · rfl
       · intro hg
         exact pf th27 th22 hb2
       apply gT
       · rfl
       · intro hg; try simp only [hg, ct]; try simp only [hg, ct, Bt]
         exact pl th22 hb2
       apply gT
       · rfl
       · intro hg; try simp only [hg, ct]; try simp only [hg, ct, Bt]
         exact pn th22
       apply gT
       · rfl
       · intro hg; try simp only [hg, ct]; try simp only [hg, ct, Bt]
         exact pb
       refine uA ?_
       refine ua ?_
       refine u_nil ?_
       refine wc (fun hc45 => ?_) (fun hc45 => ?_) <;> try simp only [Q0, Q1, Q2, Q3, Q4, Q5, Q6, Q7, Q8, ge_iff_le, gt_iff_lt] at hc45
       ·
        refine wr ?_
        refine ua ?_
        refine u_nil ?_
        refine WP.ret ?_
        refine ret_ok rfl ?_ (by omega) (fun t ht => (hk2 t (by omega)))
        -- ret 14
        clear hK6 hK10
        refine congrArg D.bool ?_
        have e1 := encVs_length xs
        clear hbd ih hv
        rw [Bool.eq_iff_iff]
        have hkd : kd < 1 ∨ 7 < kd ∨ kd = 1 ∨ kd = 2 ∨ kd = 3 ∨ kd = 4 ∨ kd = 5 ∨ kd = 6 ∨ kd = 7 := by omega
        rcases hkd with h | h | rfl | rfl | rfl | rfl | rfl | rfl | rfl <;> simp_all [mayV, maysV_all, kindOk, namesV]
        all_goals grind
       ·
        refine wr ?_
        refine uf th27 th3 hb2 ?_
        refine ul th3 hb2 ?_
        refine ub ?_
        refine um ?_
        apply gT
        · rfl
        · intro hg
          exact pf th27 th22 hb2
        apply gT
        · rfl
        · intro hg; try simp only [hg, ct]; try simp only [hg, ct, Bt]
          exact pl th22 hb2
        apply gT
        · rfl
        · intro hg; try simp only [hg, ct]; try simp only [hg, ct, Bt]
          exact pn th22
        apply gT
        · rfl
        · intro hg
          exact pf th27 th25 hb2
        apply gT
        · rfl
        · intro hg; try simp only [hg, ct]; try simp only [hg, ct, Bt]
          exact pl th25 hb2
        apply gT
        · rfl
        · intro hg; try simp only [hg, ct]; try simp only [hg, ct, Bt]
          exact pn th25
        apply gT
        · rfl
        · intro hg; try simp only [hg, ct]; try simp only [hg, ct, Bt]
          exact pb
        apply gT
        · rfl
        · intro hg; try simp only [hg, ct]; try simp only [hg, ct, Bt]
          exact pm
        apply u_guard
        · exact GC.cf _ _
        · intro hg
          exact pf th27 th22 hb2
        apply u_guard
        · exact GC.cf _ _
        · intro hg; try simp only [hg, ct]; try simp only [hg, ct, Bt]
          exact pl th22 hb2
        apply u_guard
        · exact GC.cf _ _
        · intro hg; try simp only [hg, ct]; try simp only [hg, ct, Bt]
          refine o_pcall (s128 ns) rfl ⟨rfl, rfl, rfl⟩
        apply u_guard
        · exact GC.cf _ _
        · intro hg; try simp only [hg, ct]; try simp only [hg, ct, Bt]
          exact pN
        apply gT
        · rfl
        · intro hg; try simp only [hg, ct]; try simp only [hg, ct, Bt]
          exact pO
        refine uA ?_
        refine ua ?_
        refine u_nil ?_
        refine wc (fun hc48 => ?_) (fun hc48 => ?_) <;> try simp only [Q0, Q1, Q2, Q3, Q4, Q5, Q6, Q7, Q8, ge_iff_le, gt_iff_lt] at hc48
        ·
         refine wr ?_
         refine ua ?_
         refine u_nil ?_
         refine WP.ret ?_
         refine ret_ok rfl ?_ (by omega) (fun t ht => (hk2 t (by omega)))
         -- ret 15
         clear hK6 hK10
         refine congrArg D.bool ?_
         have e1 := encVs_length xs
         clear hbd ih hv
         rw [Bool.eq_iff_iff]
         have hkd : kd < 1 ∨ 7 < kd ∨ kd = 1 ∨ kd = 2 ∨ kd = 3 ∨ kd = 4 ∨ kd = 5 ∨ kd = 6 ∨ kd = 7 := by omega
         rcases hkd with h | h | rfl | rfl | rfl | rfl | rfl | rfl | rfl <;> simp_all [mayV, maysV_all, kindOk, namesV]
         all_goals grind
        ·
         refine WP.skip ?_
         refine hK6 _ ?_
         refine wr ?_
         refine uf th27 th25 hb2 ?_
         refine ul th25 hb2 ?_
         refine u_step (o_scall (s129 xs 130 [] [] (fun x => !mayV x) (fun x hx => s130 x (ih x (by obtain ⟨j, hj, rfl⟩ := List.mem_iff_getElem.1 hx; exact items_lt' hj hv)) _ _)) rfl ?_)
         refine uN ?_
         refine ua ?_
         refine u_nil ?_
         refine WP.ret ?_
         refine ret_ok rfl ?_ (by omega) (fun t ht => (hk2 t (by omega)))
         -- ret 16
         clear hK6 hK10
         refine congrArg D.bool ?_
         have e1 := encVs_length xs
         clear hbd ih hv
         rw [Bool.eq_iff_iff]
         have hkd : kd < 1 ∨ 7 < kd ∨ kd = 1 ∨ kd = 2 ∨ kd = 3 ∨ kd = 4 ∨ kd = 5 ∨ kd = 6 ∨ kd = 7 := by omega
         rcases hkd with h | h | rfl | rfl | rfl | rfl | rfl | rfl | rfl <;> simp_all [mayV, maysV_all, kindOk, namesV]
         all_goals grind
theorem s76 (v : Val) : PSpec Tryz.prog 76 [.d (encV v)] (.d (.bool (mayV v))) := s76A _ v (Nat.lt_succ_self _)

end Go.Proofs.YtpkcbdhjnnnkbaaGreat.Abs

set_option linter.unusedVariables false
set_option linter.unusedSimpArgs false
set_option maxRecDepth 10000
namespace Go.Proofs.YtpkcbdhjnnnkbaaGreat.Abs
open Go
theorem fn140 : FnOk Tryz.prog 140 20 [2] (bodyOf Tryz.f140) := ⟨Tryz.f140, Tryz.func140, by kernel_rfl, by decide, by kernel_rfl, by kernel_rfl⟩
theorem s140 (u : Nat) (hu : u < 18446744073709551616) : RSpec Tryz.prog 140 [.d (.int .u64 u)] 5 1 (bytesD (grp u)) := by
  refine RSpec.of fn140 (by simp) fun o nk => ?_
  refine WP.seq fun K1 hK1 => ?_
  refine WP.reg tabOk rfl ?_
  refine u_step (o_assign rfl ?_)
  refine u_nil ?_
  refine hK1 _ ?_
  refine WP.seq fun K3 hK3 => ?_
  refine WP.reg tabOk rfl ?_
  refine u_step (o_assign rfl ?_)
  refine u_nil ?_
  refine hK3 _ ?_
  refine WP.seq fun K2 hK2 => ?_
  refine WP.block ?_
  refine WP.loopL (ι := Nat × Str × SV × (Nat → Option AO) × Nat) (fun ⟨m, acc, c, o2, nk2⟩ => ⟨al [(0, .d (.int .u64 m)), (3, c)], o2, nk2⟩)
    (fun ⟨m, acc, c, o2, nk2⟩ => acc ++ grp m = grp u ∧ m ≤ u ∧ nk ≤ nk2 ∧ (∃ q, dstOf o2 5 1 c = some (q, bytesD acc) ∧ ∀ t, q = some t → nk ≤ t ∧ t < nk2) ∧ ∀ t, t < nk → o2 t = o t)
    (fun ⟨m, _, _, _, _⟩ => m) (fun ⟨m, acc, c, o2, nk2⟩ hA => ?_) (u, [], .d .nil, o, nk) ?_ ?_
  · obtain ⟨hac, hm, hnk, ⟨q, hd, hq⟩, hfr⟩ := hA
    have hlen : acc.length + (grp m).length = (grp u).length := by rw [← hac]; simp
    have hgl : (grp u).length ≤ 10 := grp_len 10 u (by omega) (by omega)
    have hgm : 1 ≤ (grp m).length := by
      by_cases h : m < 128
      · rw [grp_lt h]; simp
      · rw [grp_ge h]; simp
    refine WP.seq fun K4 hK4 => ?_
    refine WP.seq fun K5 hK5 => ?_
    refine WP.reg tabOk rfl ?_
    refine u_step (o_move rfl ?_)
    refine u_step (o_bin_int rfl rfl (by decide) rfl ?_)
    refine u_nil ?_
    refine hK5 _ ?_
    refine WP.cond rfl (fun hc => ?_) (fun hc => ?_)
    · simp only [decide_eq_true_eq] at hc
      have hge : ¬ m < 128 := by omega
      refine WP.skip ?_
      refine hK4 _ ?_
      refine WP.block ?_
      refine WP.seq fun K6 hK6 => ?_
      refine WP.reg tabOk rfl ?_
      refine u_step (o_moveV (v := c) rfl ?_)
      refine u_step (o_move rfl ?_)
      refine u_step (o_bin_int rfl rfl (by decide) rfl ?_)
      refine u_step (o_cv_int rfl th126 th5 rfl ?_)
      refine u_step (o_bin_int rfl rfl (by decide) rfl ?_)
      refine u_step (o_bs rfl th52 rfl th5 rfl rfl (by decide) rfl (by decide) (by decide) ?_)
      refine u_step (g_apD (q := q) (xs := bytesD acc) (show dstOf _ _ _ (ev _ _) = _ from hd) rfl th52 rfl th5 rfl rfl (by decide) rfl (by rw [bytesD_length]; simp; omega) (by rw [bytesD_length]; simp; omega) fun o3 hb hk => ?_)
      refine u_step (o_assignV (v := .row _) rfl ?_)
      refine u_nil ?_
      refine hK6 _ ?_
      refine WP.reg tabOk rfl ?_
      refine u_step (o_move rfl ?_)
      refine u_step (o_bin_int rfl rfl (by decide) rfl ?_)
      refine u_step (o_assign rfl ?_)
      refine u_nil ?_
      have hv : IntKind.u8.wrap (IntKind.u8.wrap ((m : Int).tmod 128) + 128) = ((UInt8.ofNat (m % 128 + 128)).toNat : Int) := by
        rw [wrap_u8, wrap_u8]
        have : (m : Int).tmod 128 = ((m % 128 : Nat) : Int) := by rw [Int.tmod_eq_emod_of_nonneg (by omega)]; omega
        rw [this]; simp
      have hv2 : IntKind.u64.wrap ((m : Int).tdiv 128) = ((m / 128 : Nat) : Int) := by
        rw [Int.tdiv_eq_ediv_of_nonneg (by omega), wrap_u64 (by omega) (by omega)]; omega
      refine ⟨(m / 128, acc ++ [UInt8.ofNat (m % 128 + 128)], .row nk2, o3, nk2 + 1), ⟨?_, by omega, by omega, ⟨some nk2, ?_, ?_⟩, ?_⟩, by simp only; omega, ?_⟩
      · rw [← hac, grp_ge hge]; simp
      · rw [← bytesD_snoc, ← hv]; exact dst_row hb
      · intro t ht; injection ht with ht; omega
      · intro t ht
        rw [hk t (by omega) (fun e => by have := hq t e.symm; omega), hfr t ht]
      · refine Le.al ?_
        simp only [List.forall_mem_cons]
        exact ⟨(by rw [← hv2]; rfl), rfl, by simp⟩
    · simp only [decide_eq_false_iff_not] at hc
      have hlt : m < 128 := by omega
      refine WP.exit ?_
      refine hK2 _ ?_
      refine WP.seq fun K6 hK6 => ?_
      refine WP.reg tabOk rfl ?_
      refine u_step (o_moveV (v := c) rfl ?_)
      refine u_step (o_move rfl ?_)
      refine u_step (o_cv_int rfl th126 th5 rfl ?_)
      refine u_step (o_bs rfl th52 rfl th5 rfl rfl (by decide) rfl (by decide) (by decide) ?_)
      refine u_step (g_apD (q := q) (xs := bytesD acc) (show dstOf _ _ _ (ev _ _) = _ from hd) rfl th52 rfl th5 rfl rfl (by decide) rfl (by rw [bytesD_length]; simp; omega) (by rw [bytesD_length]; simp; omega) fun o3 hb hk => ?_)
      refine u_step (o_assignV (v := .row _) rfl ?_)
      refine u_nil ?_
      refine hK6 _ ?_
      refine WP.ret ?_
      have hv : IntKind.u8.wrap (m : Int) = ((UInt8.ofNat m).toNat : Int) := by rw [wrap_u8]; simp
      refine rrow_ok rfl (by omega) (by omega) ?_ ?_
      · rw [← hac, grp_lt hlt, ← bytesD_snoc, ← hv]; exact hb
      · intro t ht
        rw [hk t (by omega) (fun e => by have := hq t e.symm; omega), hfr t ht]
  · exact ⟨by simp, by omega, by omega, ⟨none, rfl, by simp⟩, fun _ _ => rfl⟩
  · refine Le.al ?_
    simp only [List.forall_mem_cons]
    exact ⟨rfl, rfl, by simp⟩

end Go.Proofs.YtpkcbdhjnnnkbaaGreat.Abs

set_option linter.unusedVariables false
set_option linter.unusedSimpArgs false
set_option maxRecDepth 10000
namespace Go.Proofs.YtpkcbdhjnnnkbaaGreat.Abs
open Go
/-- A number as the codes of whole numbers have it. -/
def u64 (m : Int) : Nat := (m % 18446744073709551616).toNat
theorem u64_lt (m : Int) : u64 m < 18446744073709551616 := by unfold u64; omega
theorem u64_wrap (m : Int) : IntKind.u64.wrap m = (u64 m : Int) := by
  simp only [IntKind.wrap, IntKind.bits, IntKind.signed, u64]
  simp
  omega
theorem s140w (m : Int) : RSpec Tryz.prog 140 [.d (.int .u64 (IntKind.u64.wrap m))] 5 1 (bytesD (grp (u64 m))) := by
  rw [u64_wrap]; exact s140 _ (u64_lt m)
def zigN (x : Int) : Nat := if 0 ≤ x then u64 (2 * u64 x) else u64 (2 * u64 (-(x + 1)) + 1)

theorem fn88 : FnOk Tryz.prog 88 6 [2] (bodyOf Tryz.f88) := ⟨Tryz.f88, Tryz.func88, by kernel_rfl, by decide, by kernel_rfl, by kernel_rfl⟩
theorem s88 (n : Int) : RSpec Tryz.prog 88 [.d (.int .i64 n)] 5 1 (bytesD (grp (u64 n))) := by
 refine RSpec.of fn88 (by simp) fun o nk => ?_
 refine wr ?_
 refine ua ?_
 refine u_nil ?_
 refine wr ?_
 refine um ?_
 refine uc th3 th126 ?_
 refine u_step (o_rcall (s140w n) rfl fun q3 o3 nk3 hqa3 hqb3 hb3 hk3 => ?_)
 refine u_step (o_assignV (v := .row _) rfl ?_)
 refine u_nil ?_
 refine WP.ret ?_
 refine rrow_ok rfl (by omega) (by omega) ?_ (fun t ht => (hk3 t (by omega)))
 exact hb3

theorem fn89 : FnOk Tryz.prog 89 9 [2] (bodyOf Tryz.f89) := ⟨Tryz.f89, Tryz.func89, by kernel_rfl, by decide, by kernel_rfl, by kernel_rfl⟩
theorem s89 (s : Str) (hs : s.length ≤ 70368744177664) : RSpec Tryz.prog 89 [.d (.str s)] 5 1 (bytesD (grp (u64 s.length) ++ s)) := by
 have hgl : (grp (u64 s.length)).length ≤ 10 := grp_len 10 _ (by have := u64_lt s.length; omega) (by omega)
 refine RSpec.of fn89 (by simp) fun o nk => ?_
 refine wr ?_
 refine ua ?_
 refine u_nil ?_
 refine wr ?_
 refine um ?_
 refine u_step (o_len_str rfl th9 rfl ?_)
 refine u_step (o_rcall (s88 _) rfl fun q3 o3 nk3 hqa3 hqb3 hb3 hk3 => ?_)
 refine um ?_
 refine u_step (o_cv_bytes rfl th9 rfl th52 rfl th5 rfl ?_ ?_)
 · first | assumption | omega
 refine u_step (g_ap rfl rfl th52 rfl th5 rfl rfl (by decide) rfl hb3 (by simp only [bytesD_length]; omega) (by simp only [bytesD_length]; omega) fun o4 hb4 hk4 => ?_)
 refine u_step (o_assignV (v := .row _) rfl ?_)
 refine u_nil ?_
 refine WP.ret ?_
 refine rrow_ok rfl (by omega) (by omega) ?_ (fun t ht => (hk4 t (by omega) (by omega)).trans ((hk3 t (by omega))))
 simpa [bytesD] using hb4

theorem fn170 : FnOk Tryz.prog 170 14 [2] (bodyOf Tryz.f170) := ⟨Tryz.f170, Tryz.func170, by kernel_rfl, by decide, by kernel_rfl, by kernel_rfl⟩
theorem s170 (x : Int) (h1 : -9223372036854775808 ≤ x) (h2 : x ≤ 9223372036854775807) : PSpec Tryz.prog 170 [.d (.int .i64 x)] (.d (.int .u64 (zigN x : Int))) := by
 refine PSpec.of fn170 (by simp) fun o nk => ?_
 refine wr ?_
 refine ua ?_
 refine u_nil ?_
 refine WP.seq fun K2 hK2 => ?_
 refine wr ?_
 refine um ?_
 refine ub ?_
 refine u_nil ?_
 refine wc (fun hc4 => ?_) (fun hc4 => ?_) <;> try simp only [Q0, Q1, Q2, Q3, Q4, Q5, Q6, Q7, Q8, ge_iff_le, gt_iff_lt] at hc4
 ·
  refine wr ?_
  refine um ?_
  refine uc th3 th126 ?_
  refine ub ?_
  refine ua ?_
  refine u_nil ?_
  refine WP.ret ?_
  refine ret_ok rfl ?_ (by omega) (fun _ _ => rfl)
  -- ret 1
  refine congrArg (D.int .u64) ?_
  rw [zigN, if_pos hc4, u64_wrap x, u64_wrap]
 ·
  refine WP.skip ?_
  refine hK2 _ ?_
  refine wr ?_
  refine um ?_
  refine ub ?_
  refine u_step (o_un rfl rfl ?_)
  refine uc th3 th126 ?_
  refine ub ?_
  refine ub ?_
  refine ua ?_
  refine u_nil ?_
  refine WP.ret ?_
  refine ret_ok rfl ?_ (by omega) (fun _ _ => rfl)
  -- ret 2
  refine congrArg (D.int .u64) ?_
  have e1 : IntKind.i64.wrap (x + 1) = x + 1 := wrap_i64 (by omega) (by omega)
  have e2 : IntKind.i64.wrap (0 - (x + 1)) = -(x + 1) := by rw [wrap_i64 (by omega) (by omega)]; omega
  rw [zigN, if_neg hc4, e1, e2]
  simp only [u64_wrap, u64]
  omega

theorem fn141 : FnOk Tryz.prog 141 6 [2] (bodyOf Tryz.f141) := ⟨Tryz.f141, Tryz.func141, by kernel_rfl, by decide, by kernel_rfl, by kernel_rfl⟩
theorem s141 (x : Int) (h1 : -9223372036854775808 ≤ x) (h2 : x ≤ 9223372036854775807) : RSpec Tryz.prog 141 [.d (.int .i64 x)] 5 1 (bytesD (grp (zigN x))) := by
 refine RSpec.of fn141 (by simp) fun o nk => ?_
 refine wr ?_
 refine ua ?_
 refine u_nil ?_
 refine wr ?_
 refine um ?_
 refine u_step (o_pcall (s170 x h1 h2) rfl ?_)
 refine u_step (o_rcall (s140 (zigN x) (by unfold zigN; split <;> exact u64_lt _)) rfl fun q3 o3 nk3 hqa3 hqb3 hb3 hk3 => ?_)
 refine u_step (o_assignV (v := .row _) rfl ?_)
 refine u_nil ?_
 refine WP.ret ?_
 refine rrow_ok rfl (by omega) (by omega) ?_ (fun t ht => (hk3 t (by omega)))
 exact hb3


theorem or128 (m : Nat) : bitsOf .or .u8 (IntKind.u8.wrap (m : Int)) 128 = ((UInt8.ofNat (m % 128 + 128)).toNat : Int) := by
  have h1 : ∀ b : BitVec 8, (b ||| 128#8).toNat = b.toNat % 128 + 128 := by decide
  have e : bitsOf .or .u8 (IntKind.u8.wrap (m : Int)) 128 = IntKind.u8.wrap ((BitVec.ofInt 8 (IntKind.u8.wrap (m : Int)) ||| 128#8).toNat : Int) := rfl
  rw [e, wrap_u8, wrap_u8, h1]
  simp
  omega
theorem fn138 : FnOk Tryz.prog 138 20 [4] (bodyOf Tryz.f138) := ⟨Tryz.f138, Tryz.func138, by kernel_rfl, by decide, by kernel_rfl, by kernel_rfl⟩
theorem s138 (u : Nat) (hu : u < 18446744073709551616) : RSpec Tryz.prog 138 [.d .nil, .d (.int .u64 u)] 5 1 (bytesD (grp u)) := by
  refine RSpec.of fn138 (by simp) fun o nk => ?_
  refine WP.seq fun K1 hK1 => ?_
  refine WP.reg tabOk rfl ?_
  refine u_step (o_assign rfl ?_)
  refine u_nil ?_
  refine hK1 _ ?_
  refine WP.seq fun K2 hK2 => ?_
  refine WP.block ?_
  refine WP.loopL (ι := Nat × Str × SV × (Nat → Option AO) × Nat) (fun ⟨m, acc, c, o2, nk2⟩ => ⟨al [(1, .d (.int .u64 m)), (0, c)], o2, nk2⟩)
    (fun ⟨m, acc, c, o2, nk2⟩ => acc ++ grp m = grp u ∧ m ≤ u ∧ nk ≤ nk2 ∧ (∃ q, dstOf o2 5 1 c = some (q, bytesD acc) ∧ ∀ t, q = some t → nk ≤ t ∧ t < nk2) ∧ ∀ t, t < nk → o2 t = o t)
    (fun ⟨m, _, _, _, _⟩ => m) (fun ⟨m, acc, c, o2, nk2⟩ hA => ?_) (u, [], .d .nil, o, nk) ?_ ?_
  · obtain ⟨hac, hm, hnk, ⟨q, hd, hq⟩, hfr⟩ := hA
    have hlen : acc.length + (grp m).length = (grp u).length := by rw [← hac]; simp
    have hgl : (grp u).length ≤ 10 := grp_len 10 u (by omega) (by omega)
    have hgm : 1 ≤ (grp m).length := by
      by_cases h : m < 128
      · rw [grp_lt h]; simp
      · rw [grp_ge h]; simp
    refine WP.seq fun K4 hK4 => ?_
    refine WP.seq fun K5 hK5 => ?_
    refine WP.reg tabOk rfl ?_
    refine u_step (o_move rfl ?_)
    refine u_step (o_bin_int rfl rfl (by decide) rfl ?_)
    refine u_nil ?_
    refine hK5 _ ?_
    refine WP.cond rfl (fun hc => ?_) (fun hc => ?_)
    · simp only [decide_eq_true_eq] at hc
      have hge : ¬ m < 128 := by omega
      refine WP.skip ?_
      refine hK4 _ ?_
      refine WP.seq fun K6 hK6 => ?_
      refine WP.block ?_
      refine WP.reg tabOk rfl ?_
      refine u_step (o_moveV (v := c) rfl ?_)
      refine u_step (o_move rfl ?_)
      refine u_step (o_cv_int rfl th126 th5 rfl ?_)
      refine u_step (o_bin_int rfl rfl (by decide) rfl ?_)
      refine u_step (o_bs rfl th52 rfl th5 rfl rfl (by decide) rfl (by decide) (by decide) ?_)
      refine u_step (g_apD (q := q) (xs := bytesD acc) (show dstOf _ _ _ (ev _ _) = _ from hd) rfl th52 rfl th5 rfl rfl (by decide) rfl (by rw [bytesD_length]; simp; omega) (by rw [bytesD_length]; simp; omega) fun o3 hb hk => ?_)
      refine u_step (o_assignV (v := .row _) rfl ?_)
      refine u_nil ?_
      refine hK6 _ ?_
      refine WP.reg tabOk rfl ?_
      refine u_step (o_move rfl ?_)
      refine u_step (o_bin_sh rfl rfl rfl ?_)
      refine u_step (o_assign rfl ?_)
      refine u_nil ?_
      have hv2 : (m : Int).fdiv (2 ^ min (7 : Int).toNat IntKind.u64.bits) = ((m / 128 : Nat) : Int) := by
        show (m : Int).fdiv 128 = _
        rw [Int.fdiv_eq_ediv_of_nonneg _ (by omega)]; omega
      refine ⟨(m / 128, acc ++ [UInt8.ofNat (m % 128 + 128)], .row nk2, o3, nk2 + 1), ⟨?_, by omega, by omega, ⟨some nk2, ?_, ?_⟩, ?_⟩, by simp only; omega, ?_⟩
      · rw [← hac, grp_ge hge]; simp
      · rw [← bytesD_snoc, ← or128]; exact dst_row hb
      · intro t ht; injection ht with ht; omega
      · intro t ht
        rw [hk t (by omega) (fun e => by have := hq t e.symm; omega), hfr t ht]
      · refine Le.al ?_
        simp only [List.forall_mem_cons]
        exact ⟨(by rw [← hv2]; rfl), rfl, by simp⟩
    · simp only [decide_eq_false_iff_not] at hc
      have hlt : m < 128 := by omega
      refine WP.exit ?_
      refine hK2 _ ?_
      refine WP.seq fun K6 hK6 => ?_
      refine WP.reg tabOk rfl ?_
      refine u_step (o_moveV (v := c) rfl ?_)
      refine u_step (o_move rfl ?_)
      refine u_step (o_cv_int rfl th126 th5 rfl ?_)
      refine u_step (o_bs rfl th52 rfl th5 rfl rfl (by decide) rfl (by decide) (by decide) ?_)
      refine u_step (g_apD (q := q) (xs := bytesD acc) (show dstOf _ _ _ (ev _ _) = _ from hd) rfl th52 rfl th5 rfl rfl (by decide) rfl (by rw [bytesD_length]; simp; omega) (by rw [bytesD_length]; simp; omega) fun o3 hb hk => ?_)
      refine u_step (o_assignV (v := .row _) rfl ?_)
      refine u_nil ?_
      refine hK6 _ ?_
      refine WP.ret ?_
      have hv : IntKind.u8.wrap (m : Int) = ((UInt8.ofNat m).toNat : Int) := by rw [wrap_u8]; simp
      refine rrow_ok rfl (by omega) (by omega) ?_ ?_
      · rw [← hac, grp_lt hlt, ← bytesD_snoc, ← hv]; exact hb
      · intro t ht
        rw [hk t (by omega) (fun e => by have := hq t e.symm; omega), hfr t ht]
  · exact ⟨by simp, by omega, by omega, ⟨none, rfl, by simp⟩, fun _ _ => rfl⟩
  · refine Le.al ?_
    simp only [List.forall_mem_cons]
    exact ⟨rfl, rfl, by simp⟩
end Go.Proofs.YtpkcbdhjnnnkbaaGreat.Abs

set_option linter.unusedVariables false
set_option linter.unusedSimpArgs false
set_option maxRecDepth 10000
namespace Go.Proofs.YtpkcbdhjnnnkbaaGreat.Abs
open Go
theorem xor_zig {x : Int} (h1 : -9223372036854775808 ≤ x) (h2 : x ≤ 9223372036854775807) :
    bitsOf .xor .u64 (IntKind.u64.wrap (IntKind.u64.wrap x * 2 ^ min (1 : Int).toNat IntKind.u64.bits)) (IntKind.u64.wrap (x.fdiv (2 ^ min (63 : Int).toNat IntKind.i64.bits))) = (zigN x : Int) := by
  have e0 : IntKind.u64.wrap x * 2 ^ min (1 : Int).toNat IntKind.u64.bits = 2 * IntKind.u64.wrap x := by
    show IntKind.u64.wrap x * 2 = _
    omega
  have e1 : x.fdiv (2 ^ min (63 : Int).toNat IntKind.i64.bits) = if 0 ≤ x then 0 else -1 := by
    show x.fdiv 9223372036854775808 = _
    rw [Int.fdiv_eq_ediv_of_nonneg _ (by omega)]
    split <;> omega
  have e2 : ∀ a b : Int, bitsOf .xor .u64 a b = IntKind.u64.wrap ((BitVec.ofInt 64 a ^^^ BitVec.ofInt 64 b).toNat : Int) := fun _ _ => rfl
  rw [e0, e1, e2]
  by_cases h : 0 ≤ x
  · rw [if_pos h]
    have hz : BitVec.ofInt 64 (IntKind.u64.wrap 0) = 0#64 := rfl
    rw [hz, BitVec.xor_zero, BitVec.toNat_ofInt, zigN, if_pos h]
    simp only [u64_wrap, u64]
    omega
  · rw [if_neg h]
    have hz : BitVec.ofInt 64 (IntKind.u64.wrap (-1)) = BitVec.allOnes 64 := by decide
    rw [hz, BitVec.xor_allOnes, BitVec.toNat_not, BitVec.toNat_ofInt, zigN, if_neg h]
    simp only [u64_wrap, u64]
    omega
theorem s138x {x : Int} (h1 : -9223372036854775808 ≤ x) (h2 : x ≤ 9223372036854775807) :
    RSpec Tryz.prog 138 [.d .nil, .d (.int .u64 (bitsOf .xor .u64 (IntKind.u64.wrap (IntKind.u64.wrap x * 2 ^ min (1 : Int).toNat IntKind.u64.bits)) (IntKind.u64.wrap (x.fdiv (2 ^ min (63 : Int).toNat IntKind.i64.bits)))))] 5 1 (bytesD (grp (zigN x))) := by
  rw [xor_zig h1 h2]; exact s138 (zigN x) (by unfold zigN; split <;> exact u64_lt _)
theorem s138w (m : Int) : RSpec Tryz.prog 138 [.d .nil, .d (.int .u64 (IntKind.u64.wrap m))] 5 1 (bytesD (grp (u64 m))) := by
  rw [u64_wrap]; exact s138 _ (u64_lt m)

theorem fn169 : FnOk Tryz.prog 169 11 [2] (bodyOf Tryz.f169) := ⟨Tryz.f169, Tryz.func169, by kernel_rfl, by decide, by kernel_rfl, by kernel_rfl⟩
theorem s169 (x : Int) (h1 : -9223372036854775808 ≤ x) (h2 : x ≤ 9223372036854775807) : RSpec Tryz.prog 169 [.d (.int .i64 x)] 5 1 (bytesD (grp (zigN x))) := by
 refine RSpec.of fn169 (by simp) fun o nk => ?_
 refine wr ?_
 refine ua ?_
 refine u_nil ?_
 refine wr ?_
 refine um ?_
 refine uc th3 th126 ?_
 refine u_step (o_bin_sh rfl rfl rfl ?_)
 refine um ?_
 refine u_step (o_bin_sh rfl rfl rfl ?_)
 refine uc th3 th126 ?_
 refine ub ?_
 refine u_step (o_rcall (s138x h1 h2) rfl fun q3 o3 nk3 hqa3 hqb3 hb3 hk3 => ?_)
 refine u_step (o_assignV (v := .row _) rfl ?_)
 refine u_nil ?_
 refine WP.ret ?_
 refine rrow_ok rfl (by omega) (by omega) ?_ (fun t ht => (hk3 t (by omega)))
 exact hb3

theorem fn137 : FnOk Tryz.prog 137 13 [2, 3] (bodyOf Tryz.f137) := ⟨Tryz.f137, Tryz.func137, by kernel_rfl, by decide, by kernel_rfl, by kernel_rfl⟩
theorem s137 (n : Int) (h1 : 0 ≤ n) (h2 : n ≤ 4611686018427387904) : RDSpec Tryz.prog 137 [.d (.int .i64 n)] 5 1 (bytesD (grp (u64 n))) (.int .i64 0) := by
 refine RDSpec.of fn137 (by simp) fun o nk => ?_
 refine wr ?_
 refine ua ?_
 refine ua ?_
 refine u_nil ?_
 refine WP.seq fun K2 hK2 => ?_
 refine wr ?_
 refine um ?_
 refine ub ?_
 refine um ?_
 apply gF
 · rfl
 · intro hg
   exact pm
 apply gF
 · rfl
 · intro hg; try simp only [hg, ct]; try simp only [hg, ct, Bt]
   exact pb
 refine uO ?_
 refine u_nil ?_
 refine wc (fun hc4 => ?_) (fun hc4 => ?_) <;> try simp only [Q0, Q1, Q2, Q3, Q4, Q5, Q6, Q7, Q8, ge_iff_le, gt_iff_lt] at hc4
 ·
  exfalso
  simp at hc4
  omega
 ·
  refine WP.skip ?_
  refine hK2 _ ?_
  refine wr ?_
  refine um ?_
  refine uc th3 th126 ?_
  refine u_step (o_rcall (s138w n) rfl fun q6 o6 nk6 hqa6 hqb6 hb6 hk6 => ?_)
  refine u_step (o_assignV (v := .row _) rfl ?_)
  refine ua ?_
  refine u_nil ?_
  refine WP.ret ?_
  refine rrowd_ok rfl ?_ (by omega) (by omega) ?_ (fun t ht => (hk6 t (by omega)))
  · rfl
  exact hb6

theorem fn187 : FnOk Tryz.prog 187 12 [2] (bodyOf Tryz.f187) := ⟨Tryz.f187, Tryz.func187, by kernel_rfl, by decide, by kernel_rfl, by kernel_rfl⟩
theorem s187 (n : Int) (h1 : 0 ≤ n) (h2 : n ≤ 4611686018427387904) : PSpec Tryz.prog 187 [.d (.int .i64 n)] (.d (.int .i64 ((grp (u64 n)).length : Int))) := by
 refine PSpec.of fn187 (by simp) fun o nk => ?_
 refine wr ?_
 refine ua ?_
 refine u_nil ?_
 refine wr ?_
 refine um ?_
 refine u_step (o_rdcall (s137 n h1 h2) rfl fun q3 o3 nk3 hqa3 hqb3 hb3 hk3 => ?_)
 refine u_step (o_moveV (v := .tup _) rfl ?_)
 refine ue ?_
 refine ue ?_
 refine u_step (o_assignV (v := .row _) rfl ?_)
 refine ua ?_
 refine u_nil ?_
 refine wr ?_
 refine u_step (o_moveV (v := .row _) rfl ?_)
 refine u_step (o_len_row rfl th52 rfl hb3 ?_)
 refine ua ?_
 refine u_nil ?_
 refine WP.ret ?_
 refine ret_ok rfl ?_ (by omega) (fun t ht => (hk3 t (by omega)))
 -- ret 1
 rw [bytesD_length]

theorem fn186 : FnOk Tryz.prog 186 9 [2] (bodyOf Tryz.f186) := ⟨Tryz.f186, Tryz.func186, by kernel_rfl, by decide, by kernel_rfl, by kernel_rfl⟩
theorem s186 (s : Str) (hs : s.length ≤ 70368744177664) : PSpec Tryz.prog 186 [.d (.str s)] (.d (.int .i64 (((grp (u64 s.length)).length + s.length : Nat) : Int))) := by
 have hgl : (grp (u64 s.length)).length ≤ 10 := grp_len 10 _ (by have := u64_lt s.length; omega) (by omega)
 refine PSpec.of fn186 (by simp) fun o nk => ?_
 refine wr ?_
 refine ua ?_
 refine u_nil ?_
 refine wr ?_
 refine um ?_
 refine u_step (o_len_str rfl th9 rfl ?_)
 refine u_step (o_pcall (s187 s.length (by omega) (by omega)) rfl ?_)
 refine um ?_
 refine u_step (o_len_str rfl th9 rfl ?_)
 refine ub ?_
 refine ua ?_
 refine u_nil ?_
 refine WP.ret ?_
 refine ret_ok rfl ?_ (by omega) (fun _ _ => rfl)
 -- ret 1
 rw [wrap_i64 (by omega) (by omega)]; simp

end Go.Proofs.YtpkcbdhjnnnkbaaGreat.Abs

set_option linter.unusedVariables false
set_option linter.unusedSimpArgs false
set_option maxRecDepth 10000
namespace Go.Proofs.YtpkcbdhjnnnkbaaGreat.Abs
open Go
theorem max_i (a b : Nat) : (if (a : Int) < (b : Int) then (b : Int) else (a : Int)) = ((max a b : Nat) : Int) := by split <;> omega

theorem fn160 : FnOk Tryz.prog 160 20 [2] (bodyOf Tryz.f160) := ⟨Tryz.f160, Tryz.func160, by kernel_rfl, by decide, by kernel_rfl, by kernel_rfl⟩
theorem s160A (m : Nat) : ∀ v : Val, SizeOf.sizeOf v < m → szV v ≤ 1099511627776 → PSpec Tryz.prog 160 [.d (encV v)] (.d (.int .i64 (depthV v : Int))) := by
 induction m with
 | zero => intros; omega
 | succ m ih =>
  rintro ⟨kd, it, tx, xs, ns⟩ hv hsz
  have hsz2 : 1 + tx.length + szVs xs + szN ns ≤ 1099511627776 := hsz
  have hxl := szVs_len xs
  have hnl := szN_len ns
  have hdp := depths_sz xs
  refine PSpec.of fn160 (by simp) fun o nk => ?_
  refine wr ?_
  refine u_step (g_box rfl fun o2 hb2 hk2 => ?_)
  refine ua ?_
  refine u_nil ?_
  refine wr ?_
  refine ua ?_
  refine u_nil ?_
  refine WP.seq fun K4 hK4 => ?_
  refine wr ?_
  refine uf th27 th25 hb2 ?_
  refine ul th25 hb2 ?_
  refine un th25 ?_
  refine um ?_
  refine u_nil ?_
  refine WP.block ?_
  refine WP.loopL (ι := Nat × (Nat → Option AO) × Nat) (fun ⟨i, o2, nk2⟩ => ⟨al [(3, .d (.int .i64 (depthsV (xs.take i) : Nat))), (7, .d (.sl 5 (encVs xs))), (8, .d (.int .i64 (encVs xs).length)), (9, .d (.int .i64 i))], o2, nk2⟩) (fun ⟨i, o2, nk2⟩ => i ≤ xs.length ∧ nk ≤ nk2 ∧ (∀ t, t < nk → o2 t = o t)) (fun ⟨i, o2, nk2⟩ => xs.length - i) (fun ⟨i, o2, nk2⟩ hA => ?_) ⟨0, o2, (nk + 1)⟩ ?_ ?_
  ·
   obtain ⟨hle, hnk, hfr⟩ := hA
   refine wr ?_
   refine ub ?_
   refine u_nil ?_
   refine WP.seq fun K7 hK7 => ?_
   refine wc (fun hc8 => ?_) (fun hc8 => ?_) <;> try simp only [Q0, Q1, Q2, Q3, Q4, Q5, Q6, Q7, Q8, ge_iff_le, gt_iff_lt] at hc8
   ·
    refine WP.skip ?_
    refine hK7 _ ?_
    refine WP.seq fun K9 hK9 => ?_
    refine WP.block ?_
    refine wr ?_
    first | refine u_step (o_ia_map rfl rfl th25 rfl th27 rfl (by omega) ?_) | refine u_step (o_ia_vs rfl rfl th25 rfl th27 rfl (by omega) ?_)
    refine uL th27 ?_
    refine u_step (g_alloc th27 rfl fun o11 hb11 hk11 => ?_)
    refine u_step0 (g_sta rfl (congrArg SV.d (encV_eq _)) th27 rfl hb11 (by simp [valCells]) fun o12 hb12 hk12 => ?_)
    refine u_nil ?_
    refine WP.reg tabOk rfl ?_
    refine um ?_
    refine ug th27 hb12 ?_
    refine u_step (o_pcall (pv (v := xs[i]) (ih _ (by exact items_lt' (by omega) hv) (by have := szVs_get (xs := xs) (j := i) (by omega); omega))) rfl ?_)
    refine u_step (o_mm (by decide) rfl ?_)
    refine ua ?_
    refine u_nil ?_
    refine hK9 _ ?_
    refine WP.reg tabOk rfl ?_
    refine ub ?_
    refine um ?_
    refine u_nil ?_
    -- back
    refine ⟨⟨i + 1, o12, (nk2 + 1)⟩, ⟨by omega, by omega, (fun t ht => (hk12 t (by omega)).trans ((hk11 t (by omega)).trans ((hfr t (by omega)))))⟩, by simp only; omega, ?_⟩
    refine Le.al ?_
    simp only [List.forall_mem_cons]
    exact ⟨(by rw [depthsV_snoc (by omega), ← max_i]; rfl), rfl, rfl, cnt (by omega), by simp⟩
   ·
    refine WP.exit ?_
    refine hK4 _ ?_
    refine wr ?_
    refine um ?_
    refine ub ?_
    refine ua ?_
    refine u_nil ?_
    refine WP.ret ?_
    refine ret_ok rfl ?_ (by omega) (fun t ht => (hfr t (by omega)))
    -- ret 1
    refine congrArg (D.int .i64) ?_
    have h0 : xs.take i = xs := List.take_of_length_le (by omega)
    rw [h0, wrap_succ (by omega)]
    rfl
  ·
   refine ⟨by simp, by omega, (fun t ht => (hk2 t (by omega)))⟩
  ·
   refine Le.al ?_
   simp only [List.forall_mem_cons]
   exact ⟨rfl, rfl, rfl, rfl, by simp⟩
theorem s160 (v : Val) (hsz : szV v ≤ 1099511627776) : PSpec Tryz.prog 160 [.d (encV v)] (.d (.int .i64 (depthV v : Int))) := s160A _ v (Nat.lt_succ_self _) hsz

theorem fn116 : FnOk Tryz.prog 116 25 [2] (bodyOf Tryz.f116) := ⟨Tryz.f116, Tryz.func116, by kernel_rfl, by decide, by kernel_rfl, by kernel_rfl⟩
theorem s116A (m : Nat) : ∀ v : Val, SizeOf.sizeOf v < m → szV v ≤ 1099511627776 → PSpec Tryz.prog 116 [.d (encV v)] (.d (.int .i64 (depthV v : Int))) := by
 induction m with
 | zero => intros; omega
 | succ m ih =>
  rintro ⟨kd, it, tx, xs, ns⟩ hv hsz
  have hsz2 : 1 + tx.length + szVs xs + szN ns ≤ 1099511627776 := hsz
  have hxl := szVs_len xs
  have hnl := szN_len ns
  have hdp := depths_sz xs
  refine PSpec.of fn116 (by simp) fun o nk => ?_
  refine wr ?_
  refine u_step (g_box rfl fun o2 hb2 hk2 => ?_)
  refine ua ?_
  refine u_nil ?_
  refine wr ?_
  refine ua ?_
  refine u_nil ?_
  refine WP.seq fun K4 hK4 => ?_
  refine wr ?_
  refine ua ?_
  refine u_nil ?_
  refine WP.block ?_
  refine WP.loopL (ι := Nat) (fun i => ⟨al [(1, .loc nk 0), (3, .d (.int .i64 (depthsV (xs.take i) : Nat))), (4, .d (.int .i64 i))], o2, (nk + 1)⟩) (fun i => i ≤ xs.length ∧ True) (fun i => xs.length - i) (fun i hA => ?_) 0 ?_ ?_
  ·
   obtain ⟨hle_i, hin_i⟩ := hA
   refine WP.seq fun K6 hK6 => ?_
   refine wr ?_
   refine um ?_
   refine uf th27 th25 hb2 ?_
   refine ul th25 hb2 ?_
   refine un th25 ?_
   refine ub ?_
   refine u_nil ?_
   refine wc (fun hc8 => ?_) (fun hc8 => ?_) <;> try simp only [Q0, Q1, Q2, Q3, Q4, Q5, Q6, Q7, Q8, ge_iff_le, gt_iff_lt] at hc8
   ·
    refine WP.skip ?_
    refine hK6 _ ?_
    refine WP.seq fun K9 hK9 => ?_
    refine WP.block ?_
    refine wr ?_
    refine uf th27 th25 hb2 ?_
    refine ul th25 hb2 ?_
    refine um ?_
    first | refine u_step (o_ia_map rfl rfl th25 rfl th27 rfl (by omega) ?_) | refine u_step (o_ia_vs rfl rfl th25 rfl th27 rfl (by omega) ?_)
    refine uL th27 ?_
    refine u_step (o_pcall (ih _ (by exact items_lt' (by omega) hv) (by have := szVs_get (xs := xs) (j := i) (by omega); omega)) rfl ?_)
    refine ua ?_
    refine u_nil ?_
    refine wr ?_
    refine um ?_
    refine um ?_
    refine ub ?_
    refine u_nil ?_
    refine wc (fun hc12 => ?_) (fun hc12 => ?_) <;> try simp only [Q0, Q1, Q2, Q3, Q4, Q5, Q6, Q7, Q8, ge_iff_le, gt_iff_lt] at hc12
    ·
     refine WP.reg tabOk rfl ?_
     refine um ?_
     refine ua ?_
     refine u_nil ?_
     refine hK9 _ ?_
     refine WP.reg tabOk rfl ?_
     refine um ?_
     refine ub ?_
     refine ua ?_
     refine u_nil ?_
     -- back
     refine ⟨i + 1, ⟨by omega, trivial⟩, by omega, ?_⟩
     refine Le.al ?_
     simp only [List.forall_mem_cons]
     have hmx := depthsV_snoc (xs := xs) (i := i) (by omega)
     refine ⟨rfl, ?_, cnt (by omega), by simp⟩
     first | (show SV.d (.int .i64 (depthV xs[i] : Int)) = _; rw [hmx]; refine congrArg (fun n : Int => SV.d (.int .i64 n)) ?_; omega) | (show SV.d (.int .i64 (depthsV (xs.take i) : Int)) = _; rw [hmx]; refine congrArg (fun n : Int => SV.d (.int .i64 n)) ?_; omega)
    ·
     refine WP.skip ?_
     refine hK9 _ ?_
     refine WP.reg tabOk rfl ?_
     refine um ?_
     refine ub ?_
     refine ua ?_
     refine u_nil ?_
     -- back
     refine ⟨i + 1, ⟨by omega, trivial⟩, by omega, ?_⟩
     refine Le.al ?_
     simp only [List.forall_mem_cons]
     have hmx := depthsV_snoc (xs := xs) (i := i) (by omega)
     refine ⟨rfl, ?_, cnt (by omega), by simp⟩
     first | (show SV.d (.int .i64 (depthV xs[i] : Int)) = _; rw [hmx]; refine congrArg (fun n : Int => SV.d (.int .i64 n)) ?_; omega) | (show SV.d (.int .i64 (depthsV (xs.take i) : Int)) = _; rw [hmx]; refine congrArg (fun n : Int => SV.d (.int .i64 n)) ?_; omega)
   ·
    refine WP.exit ?_
    refine hK4 _ ?_
    refine wr ?_
    refine um ?_
    refine ub ?_
    refine ua ?_
    refine u_nil ?_
    refine WP.ret ?_
    refine ret_ok rfl ?_ (by omega) (fun t ht => (hk2 t (by omega)))
    -- ret 1
    refine congrArg (D.int .i64) ?_
    have h0 : xs.take i = xs := List.take_of_length_le (by omega)
    rw [h0, wrap_succ (by omega)]
    rfl
  ·
   simp
  ·
   refine Le.al ?_
   simp only [List.forall_mem_cons]
   exact ⟨rfl, rfl, rfl, by simp⟩
theorem s116 (v : Val) (hsz : szV v ≤ 1099511627776) : PSpec Tryz.prog 116 [.d (encV v)] (.d (.int .i64 (depthV v : Int))) := s116A _ v (Nat.lt_succ_self _) hsz

end Go.Proofs.YtpkcbdhjnnnkbaaGreat.Abs

set_option linter.unusedVariables false
set_option linter.unusedSimpArgs false
set_option maxRecDepth 10000
namespace Go.Proofs.YtpkcbdhjnnnkbaaGreat.Abs
open Go
mutual
/-- Every number of a value is one of 64 bits. -/
def rngV : Val → Prop
  | .mk _ i _ xs _ => (-9223372036854775808 ≤ i ∧ i ≤ 9223372036854775807) ∧ rngVs xs
def rngVs : List Val → Prop
  | [] => True
  | x :: xs => rngV x ∧ rngVs xs
end
theorem rngVs_get : ∀ {xs : List Val} {j : Nat} (_ : rngVs xs) (h : j < xs.length), rngV (xs[j]'h)
  | x :: xs, 0, hr, _ => hr.1
  | x :: xs, j + 1, hr, h => rngVs_get (xs := xs) (j := j) hr.2 (by simpa using h)
def cntN (n : Nat) : Nat := (grp (u64 n)).length
def textN (s : Str) : Nat := (grp (u64 s.length)).length + s.length
def namesN : List Str → Nat
  | [] => 0
  | s :: r => textN s + namesN r
mutual
/-- How many bytes a value's code has. -/
def sizeV : Val → Nat
  | .mk k i t xs ns => if k = 1 then 1 else if k = 2 then 2 else if k = 3 then 1 + (grp (zigN i)).length else if k = 4 ∨ k = 5 then 1 + textN t else 1 + cntN xs.length + sizesV xs + namesN ns
def sizesV : List Val → Nat
  | [] => 0
  | x :: xs => sizeV x + sizesV xs
end
theorem cntN_le (n : Nat) : cntN n ≤ 10 := grp_len 10 _ (by have := u64_lt (n : Int); omega) (by omega)
theorem zig_lt (x : Int) : zigN x < 18446744073709551616 := by unfold zigN; split <;> exact u64_lt _
theorem zig_le (x : Int) : (grp (zigN x)).length ≤ 10 := grp_len 10 _ (Nat.lt_of_lt_of_le (zig_lt x) (by decide)) (by omega)
theorem textN_le (s : Str) : textN s ≤ 10 + s.length := by have := cntN_le s.length; unfold textN cntN at *; omega
theorem namesN_le : ∀ ns, namesN ns ≤ 11 * szN ns
  | [] => by simp [namesN]
  | s :: r => by
    have := namesN_le r
    have := textN_le s
    simp only [namesN, szN]; omega
mutual
theorem sizeV_le : ∀ v, sizeV v ≤ 12 * szV v
  | .mk k i t xs ns => by
    have h1 := sizesV_le xs
    have h2 := namesN_le ns
    have h3 := cntN_le xs.length
    have h4 := zig_le i
    have h5 := textN_le t
    simp only [sizeV, szV]
    split
    · omega
    · split
      · omega
      · split
        · omega
        · split <;> omega
theorem sizesV_le : ∀ xs, sizesV xs ≤ 12 * szVs xs
  | [] => by simp [sizesV]
  | x :: xs => by
    have h1 := sizeV_le x
    have h2 := sizesV_le xs
    simp only [sizesV, szVs]; omega
end
theorem sizesV_snoc : ∀ {xs : List Val} {i : Nat} (h : i < xs.length), sizesV (xs.take (i + 1)) = sizesV (xs.take i) + sizeV (xs[i]'h)
  | x :: xs, 0, _ => by simp [sizesV]
  | x :: xs, i + 1, h => by
    have := sizesV_snoc (xs := xs) (i := i) (by simpa using h)
    simp only [List.take_succ_cons, sizesV, this, List.getElem_cons_succ]; omega
theorem namesN_snoc : ∀ {xs : List Str} {i : Nat} (h : i < xs.length), namesN (xs.take (i + 1)) = namesN (xs.take i) + textN (xs[i]'h)
  | x :: xs, 0, _ => by simp [namesN]
  | x :: xs, i + 1, h => by
    have := namesN_snoc (xs := xs) (i := i) (by simpa using h)
    simp only [List.take_succ_cons, namesN, this, List.getElem_cons_succ]; omega
theorem sizesV_take (xs : List Val) (i : Nat) : sizesV (xs.take i) ≤ sizesV xs := by
  have h : ∀ (ys zs : List Val), sizesV ys ≤ sizesV (ys ++ zs) := fun ys zs => by
    induction ys with
    | nil => simp [sizesV]
    | cons y ys ih => simp only [List.cons_append, sizesV]; omega
  have := h (xs.take i) (xs.drop i)
  rwa [List.take_append_drop] at this
theorem namesN_take (xs : List Str) (i : Nat) : namesN (xs.take i) ≤ namesN xs := by
  have h : ∀ (ys zs : List Str), namesN ys ≤ namesN (ys ++ zs) := fun ys zs => by
    induction ys with
    | nil => simp [namesN]
    | cons y ys ih => simp only [List.cons_append, namesN]; omega
  have := h (xs.take i) (xs.drop i)
  rwa [List.take_append_drop] at this
theorem may_items {k i t xs ns} (h : mayV (.mk k i t xs ns) = true) {j : Nat} (hj : j < xs.length) : mayV (xs[j]'hj) = true := by
  rw [mayV, maysV_all] at h
  simp only [Bool.and_eq_true] at h
  exact List.all_eq_true.1 h.1.1 _ (List.getElem_mem hj)
theorem add_w {a b c : Nat} (h : a + b = c) (hb : c ≤ 9223372036854775807) : SV.d (.int .i64 (IntKind.i64.wrap ((a : Int) + (b : Int)))) = SV.d (.int .i64 (c : Int)) := by
  rw [wrap_i64 (by omega) (by omega), ← h]; simp
theorem add_w1 {b c : Nat} (h : 1 + b = c) (hb : c ≤ 9223372036854775807) : SV.d (.int .i64 (IntKind.i64.wrap (1 + (b : Int)))) = SV.d (.int .i64 (c : Int)) := by
  rw [wrap_i64 (by omega) (by omega), ← h]; simp

theorem fn161 : FnOk Tryz.prog 161 58 [2] (bodyOf Tryz.f161) := ⟨Tryz.f161, Tryz.func161, by kernel_rfl, by decide, by kernel_rfl, by kernel_rfl⟩
theorem s161A (m : Nat) : ∀ v : Val, SizeOf.sizeOf v < m → mayV v = true → rngV v → szV v ≤ 1099511627776 → PSpec Tryz.prog 161 [.d (encV v)] (.d (.int .i64 (sizeV v : Int))) := by
 induction m with
 | zero => intros; omega
 | succ m ih =>
  rintro ⟨kd, it, tx, xs, ns⟩ hv hmy hrg hsz
  have hsz2 : 1 + tx.length + szVs xs + szN ns ≤ 1099511627776 := hsz
  have hxl := szVs_len xs
  have hnl := szN_len ns
  have hs1 := sizesV_le xs
  have hs2 := namesN_le ns
  have hc1 := cntN_le xs.length
  have hz1 := zig_le it
  have ht1 := textN_le tx
  have hln := encVs_length xs
  refine PSpec.of fn161 (by simp) fun o nk => ?_
  refine wr ?_
  refine u_step (g_box rfl fun o2 hb2 hk2 => ?_)
  refine ua ?_
  refine u_nil ?_
  refine WP.seq fun K3 hK3 => ?_
  refine wr ?_
  refine uf th27 th3 hb2 ?_
  refine ul th3 hb2 ?_
  refine u_nil ?_
  refine WP.block ?_
  refine wr ?_
  refine ub ?_
  refine ua ?_
  refine u_nil ?_
  refine wc (fun hc6 => ?_) (fun hc6 => ?_) <;> try simp only [Q0, Q1, Q2, Q3, Q4, Q5, Q6, Q7, Q8, ge_iff_le, gt_iff_lt] at hc6
  ·
   refine wr ?_
   refine ua ?_
   refine u_nil ?_
   refine WP.ret ?_
   refine ret_ok rfl ?_ (by omega) (fun t ht => (hk2 t (by omega)))
   -- ret 1
   clear hK3
   refine congrArg (D.int .i64) ?_
   simp only [beq_iff_eq, beq_eq_false_iff_ne, ne_eq, Bool.or_eq_true, Bool.or_eq_false_iff] at hc6
   have e0 : textN tx = (grp (u64 tx.length)).length + tx.length := rfl
   try rw [wrap_i64 (by first | omega | (rw [bytesD_length]; omega)) (by first | omega | (rw [bytesD_length]; omega))]
   try rw [bytesD_length]
   have h0 : ∀ i, ¬ i < xs.length → xs.take i = xs := fun i h => List.take_of_length_le (by omega)
   have h0n : ∀ i, ¬ i < ns.length → ns.take i = ns := fun i h => List.take_of_length_le (by omega)
   simp only [sizeV]
   grind
  ·
   refine wr ?_
   refine ub ?_
   refine ua ?_
   refine u_nil ?_
   refine wc (fun hc9 => ?_) (fun hc9 => ?_) <;> try simp only [Q0, Q1, Q2, Q3, Q4, Q5, Q6, Q7, Q8, ge_iff_le, gt_iff_lt] at hc9
   ·
    refine wr ?_
    refine ua ?_
    refine u_nil ?_
    refine WP.ret ?_
    refine ret_ok rfl ?_ (by omega) (fun t ht => (hk2 t (by omega)))
    -- ret 2
    clear hK3
    refine congrArg (D.int .i64) ?_
    simp only [beq_iff_eq, beq_eq_false_iff_ne, ne_eq, Bool.or_eq_true, Bool.or_eq_false_iff] at hc6 hc9
    have e0 : textN tx = (grp (u64 tx.length)).length + tx.length := rfl
    try rw [wrap_i64 (by first | omega | (rw [bytesD_length]; omega)) (by first | omega | (rw [bytesD_length]; omega))]
    try rw [bytesD_length]
    have h0 : ∀ i, ¬ i < xs.length → xs.take i = xs := fun i h => List.take_of_length_le (by omega)
    have h0n : ∀ i, ¬ i < ns.length → ns.take i = ns := fun i h => List.take_of_length_le (by omega)
    simp only [sizeV]
    grind
   ·
    refine wr ?_
    refine ub ?_
    refine ua ?_
    refine u_nil ?_
    refine wc (fun hc12 => ?_) (fun hc12 => ?_) <;> try simp only [Q0, Q1, Q2, Q3, Q4, Q5, Q6, Q7, Q8, ge_iff_le, gt_iff_lt] at hc12
    ·
     refine wr ?_
     refine uf th27 th3 hb2 ?_
     refine ul th3 hb2 ?_
     refine u_step (o_rcall (s169 it hrg.1.1 hrg.1.2) rfl fun q14 o14 nk14 hqa14 hqb14 hb14 hk14 => ?_)
     have hb2_14 := (hk14 _ (by omega)).trans hb2
     refine u_step (o_len_row rfl th52 rfl hb14 ?_)
     refine ub ?_
     refine ua ?_
     refine u_nil ?_
     refine WP.ret ?_
     refine ret_ok rfl ?_ (by omega) (fun t ht => (hk14 t (by omega)).trans ((hk2 t (by omega))))
     -- ret 3
     clear hK3
     refine congrArg (D.int .i64) ?_
     simp only [beq_iff_eq, beq_eq_false_iff_ne, ne_eq, Bool.or_eq_true, Bool.or_eq_false_iff] at hc6 hc9 hc12
     have e0 : textN tx = (grp (u64 tx.length)).length + tx.length := rfl
     try rw [wrap_i64 (by first | omega | (rw [bytesD_length]; omega)) (by first | omega | (rw [bytesD_length]; omega))]
     try rw [bytesD_length]
     have h0 : ∀ i, ¬ i < xs.length → xs.take i = xs := fun i h => List.take_of_length_le (by omega)
     have h0n : ∀ i, ¬ i < ns.length → ns.take i = ns := fun i h => List.take_of_length_le (by omega)
     simp only [sizeV]
     grind
    ·
     refine WP.seqJ ⟨al [(1, .loc nk 0), (9, .d (.int .i64 kd)), (21, .d (.bool (kd == 4 || kd == 5)))], o2, (nk + 1)⟩ ?_ ?_
     ·
      refine wr ?_
      refine ub ?_
      refine ua ?_
      refine u_nil ?_
      refine wc (fun hc16 => ?_) (fun hc16 => ?_) <;> try simp only [Q0, Q1, Q2, Q3, Q4, Q5, Q6, Q7, Q8, ge_iff_le, gt_iff_lt] at hc16
      ·
       refine WP.skip ?_
       refine Le.al ?_
       simp only [List.forall_mem_cons]
       refine ⟨rfl, rfl, ?_, by simp⟩
       first | (show SV.d (.bool (kd == (4 : Int))) = _; simp only [hc16, Bool.true_or]) | (show SV.d (.bool (kd == (5 : Int))) = _; simp only [hc16, Bool.false_or])
      ·
       refine WP.reg tabOk rfl ?_
       refine ub ?_
       refine ua ?_
       refine u_nil ?_
       refine Le.al ?_
       simp only [List.forall_mem_cons]
       refine ⟨rfl, rfl, ?_, by simp⟩
       first | (show SV.d (.bool (kd == (4 : Int))) = _; simp only [hc16, Bool.true_or]) | (show SV.d (.bool (kd == (5 : Int))) = _; simp only [hc16, Bool.false_or])
     ·
      refine wc (fun hc17 => ?_) (fun hc17 => ?_) <;> try simp only [Q0, Q1, Q2, Q3, Q4, Q5, Q6, Q7, Q8, ge_iff_le, gt_iff_lt] at hc17
      ·
       refine wr ?_
       refine uf th27 th9 hb2 ?_
       refine ul th9 hb2 ?_
       refine u_step (o_pcall (s186 tx (by omega)) rfl ?_)
       refine ub ?_
       refine ua ?_
       refine u_nil ?_
       refine WP.ret ?_
       refine ret_ok rfl ?_ (by omega) (fun t ht => (hk2 t (by omega)))
       -- ret 4
       clear hK3
       refine congrArg (D.int .i64) ?_
       simp only [beq_iff_eq, beq_eq_false_iff_ne, ne_eq, Bool.or_eq_true, Bool.or_eq_false_iff] at hc6 hc9 hc12 hc17
       have e0 : textN tx = (grp (u64 tx.length)).length + tx.length := rfl
       try rw [wrap_i64 (by first | omega | (rw [bytesD_length]; omega)) (by first | omega | (rw [bytesD_length]; omega))]
       try rw [bytesD_length]
       have h0 : ∀ i, ¬ i < xs.length → xs.take i = xs := fun i h => List.take_of_length_le (by omega)
       have h0n : ∀ i, ¬ i < ns.length → ns.take i = ns := fun i h => List.take_of_length_le (by omega)
       simp only [sizeV]
       grind
      ·
       refine WP.skip ?_
       refine hK3 _ ?_
       refine wr ?_
       refine uf th27 th25 hb2 ?_
       refine ul th25 hb2 ?_
       refine un th25 ?_
       refine u_step (o_pcall (s187 (encVs xs).length (by omega) (by omega)) rfl ?_)
       refine ub ?_
       refine ua ?_
       refine u_nil ?_
       refine WP.seq fun K20 hK20 => ?_
       refine wr ?_
       refine uf th27 th25 hb2 ?_
       refine ul th25 hb2 ?_
       refine un th25 ?_
       refine um ?_
       refine u_nil ?_
       refine WP.block ?_
       refine WP.loopL (ι := Nat × (Nat → Option AO) × Nat) (fun ⟨i, o2, nk2⟩ => ⟨al [(1, .loc nk 0), (3, .d (.int .i64 (1 + cntN xs.length + sizesV (xs.take i) : Nat))), (34, .d (.sl 5 (encVs xs))), (35, .d (.int .i64 (encVs xs).length)), (36, .d (.int .i64 i))], o2, nk2⟩) (fun ⟨i, o2, nk2⟩ => i ≤ xs.length ∧ nk < nk2 ∧ o2 nk = some (.box (([.int .i64 kd, .int .i64 it, .str tx, .sl 5 (encVs xs), .sl 1 (ns.map .str)] : List D).map .d)) ∧ (∀ t, t < nk → o2 t = o t)) (fun ⟨i, o2, nk2⟩ => xs.length - i) (fun ⟨i, o2, nk2⟩ hA => ?_) ⟨0, o2, (nk + 1)⟩ ?_ ?_
       ·
        obtain ⟨hle, hnk, hob, hfr⟩ := hA
        refine wr ?_
        refine ub ?_
        refine u_nil ?_
        refine WP.seq fun K23 hK23 => ?_
        refine wc (fun hc24 => ?_) (fun hc24 => ?_) <;> try simp only [Q0, Q1, Q2, Q3, Q4, Q5, Q6, Q7, Q8, ge_iff_le, gt_iff_lt] at hc24
        ·
         refine WP.skip ?_
         refine hK23 _ ?_
         refine WP.seq fun K25 hK25 => ?_
         refine WP.block ?_
         refine wr ?_
         first | refine u_step (o_ia_map rfl rfl th25 rfl th27 rfl (by omega) ?_) | refine u_step (o_ia_vs rfl rfl th25 rfl th27 rfl (by omega) ?_)
         refine uL th27 ?_
         refine u_step (g_alloc th27 rfl fun o27 hb27 hk27 => ?_)
         have hob_27 := (hk27 _ (by omega)).trans hob
         refine u_step0 (g_sta rfl (congrArg SV.d (encV_eq _)) th27 rfl hb27 (by simp [valCells]) fun o28 hb28 hk28 => ?_)
         have hob_28 := (hk28 _ (by omega)).trans hob_27
         refine u_nil ?_
         refine WP.reg tabOk rfl ?_
         refine um ?_
         refine ug th27 hb28 ?_
         refine u_step (o_pcall (pv (v := xs[i]) (ih _ (by exact items_lt' (by omega) hv) (may_items hmy (by omega)) (rngVs_get hrg.2 (by omega)) (by have := szVs_get (xs := xs) (j := i) (by omega); omega))) rfl ?_)
         refine ub ?_
         refine ua ?_
         refine u_nil ?_
         refine hK25 _ ?_
         refine WP.reg tabOk rfl ?_
         refine ub ?_
         refine um ?_
         refine u_nil ?_
         -- back
         have hsn := sizesV_snoc (xs := xs) (i := i) (by omega)
         have hst := sizesV_take xs (i + 1)
         refine ⟨⟨i + 1, o28, (nk2 + 1)⟩, ⟨by omega, by omega, hob_28, (fun t ht => (hk28 t (by omega)).trans ((hk27 t (by omega)).trans ((hfr t (by omega)))))⟩, by simp only; omega, ?_⟩
         refine Le.al ?_
         simp only [List.forall_mem_cons]
         exact ⟨rfl, add_w (by omega) (by omega), rfl, rfl, cnt (by omega), by simp⟩
        ·
         refine WP.exit ?_
         refine hK20 _ ?_
         refine WP.seq fun K29 hK29 => ?_
         refine wr ?_
         refine uf th27 th22 hob ?_
         refine ul th22 hob ?_
         refine un th22 ?_
         refine um ?_
         refine u_nil ?_
         refine WP.block ?_
         refine WP.loopL (ι := Nat) (fun j => ⟨al [(3, .d (.int .i64 (1 + cntN xs.length + sizesV xs + namesN (ns.take j) : Nat))), (46, .d (.sl 1 (ns.map .str))), (47, .d (.int .i64 (ns.map D.str).length)), (48, .d (.int .i64 j))], o2, nk2⟩) (fun j => j ≤ ns.length) (fun j => ns.length - j) (fun j hA => ?_) 0 ?_ ?_
         ·
          refine wr ?_
          refine ub ?_
          refine u_nil ?_
          refine WP.seq fun K32 hK32 => ?_
          refine wc (fun hc33 => ?_) (fun hc33 => ?_) <;> try simp only [Q0, Q1, Q2, Q3, Q4, Q5, Q6, Q7, Q8, ge_iff_le, gt_iff_lt] at hc33
          ·
           refine WP.skip ?_
           refine hK32 _ ?_
           refine WP.seq fun K34 hK34 => ?_
           refine WP.block ?_
           refine wr ?_
           first | refine u_step (o_ia_map rfl rfl th22 rfl th9 rfl (by omega) ?_) | refine u_step (o_ia_vs rfl rfl th22 rfl th9 rfl (by omega) ?_)
           refine uL th9 ?_
           refine ua ?_
           refine u_nil ?_
           refine WP.reg tabOk rfl ?_
           refine um ?_
           refine um ?_
           refine u_step (o_pcall (s186 ns[j] (by have := szN_get (xs := ns) (j := j) (by omega); omega)) rfl ?_)
           refine ub ?_
           refine ua ?_
           refine u_nil ?_
           refine hK34 _ ?_
           refine WP.reg tabOk rfl ?_
           refine ub ?_
           refine um ?_
           refine u_nil ?_
           -- back
           have hsn := namesN_snoc (xs := ns) (i := j) (by omega)
           have hst := namesN_take ns (j + 1)
           refine ⟨j + 1, by omega, by omega, ?_⟩
           refine Le.al ?_
           simp only [List.forall_mem_cons]
           exact ⟨add_w (by simp only [textN] at *; omega) (by omega), rfl, rfl, cnt (by omega), by simp⟩
          ·
           refine WP.exit ?_
           refine hK29 _ ?_
           refine wr ?_
           refine um ?_
           refine ua ?_
           refine u_nil ?_
           refine WP.ret ?_
           refine ret_ok rfl ?_ (by omega) (fun t ht => (hfr t (by omega)))
           -- ret 5
           clear hK3 hK20 hK23 hK29 hK32
           refine congrArg (D.int .i64) ?_
           simp only [beq_iff_eq, beq_eq_false_iff_ne, ne_eq, Bool.or_eq_true, Bool.or_eq_false_iff] at hc6 hc9 hc12 hc17 hc24 hc33
           have e0 : textN tx = (grp (u64 tx.length)).length + tx.length := rfl
           try rw [wrap_i64 (by first | omega | (rw [bytesD_length]; omega)) (by first | omega | (rw [bytesD_length]; omega))]
           try rw [bytesD_length]
           have h0 : ∀ i, ¬ i < xs.length → xs.take i = xs := fun i h => List.take_of_length_le (by omega)
           have h0n : ∀ i, ¬ i < ns.length → ns.take i = ns := fun i h => List.take_of_length_le (by omega)
           simp only [sizeV]
           grind
         ·
          omega
         ·
          refine Le.al ?_
          simp only [List.forall_mem_cons]
          have h0 : xs.take i = xs := List.take_of_length_le (by omega)
          exact ⟨(by rw [h0, List.take_zero]; simp [namesN]; rfl), rfl, rfl, rfl, by simp⟩
       ·
        refine ⟨by simp, by omega, hb2, (fun t ht => (hk2 t (by omega)))⟩
       ·
        refine Le.al ?_
        simp only [List.forall_mem_cons]
        refine ⟨rfl, ?_, rfl, rfl, rfl, by simp⟩
        exact add_w1 (by simp only [cntN, List.take_zero, sizesV, hln]; omega) (by simp only [List.take_zero, sizesV]; omega)
theorem s161 (v : Val) (hmy : mayV v = true) (hrg : rngV v) (hsz : szV v ≤ 1099511627776) : PSpec Tryz.prog 161 [.d (encV v)] (.d (.int .i64 (sizeV v : Int))) := s161A _ v (Nat.lt_succ_self _) hmy hrg hsz

end Go.Proofs.YtpkcbdhjnnnkbaaGreat.Abs

set_option linter.unusedVariables false
set_option linter.unusedSimpArgs false
set_option maxRecDepth 10000
namespace Go.Proofs.YtpkcbdhjnnnkbaaGreat.Abs
open Go
theorem may7 {i t xs ns} (h : mayV (.mk 7 i t xs ns) = true) : ns.length = xs.length := by
  simp [mayV, kindOk] at h; omega
theorem add_w2 {a b c d : Nat} (h : a + b + c = d) (hb : d ≤ 9223372036854775807) : SV.d (.int .i64 (IntKind.i64.wrap (IntKind.i64.wrap ((a : Int) + (b : Int)) + (c : Int)))) = SV.d (.int .i64 (d : Int)) := by
  rw [wrap_i64 (m := (a : Int) + (b : Int)) (by omega) (by omega), wrap_i64 (by omega) (by omega), ← h]; simp
def accS (k : Int) (xs : List Val) (ns : List Str) (i : Nat) : Nat := (if k = 6 ∨ k = 7 then 1 + cntN xs.length else 1) + sizesV (xs.take i) + (if k = 7 then namesN (ns.take i) else 0)
theorem accS_a {k : Int} {xs : List Val} {ns : List Str} {i : Nat} (h : i < xs.length) (h7 : ¬ k = 7) : accS k xs ns i + sizeV (xs[i]'h) = accS k xs ns (i + 1) := by
  simp only [accS, if_neg h7, sizesV_snoc h]; omega
theorem accS_b {k : Int} {xs : List Val} {ns : List Str} {i : Nat} (h : i < xs.length) (hn : i < ns.length) (h7 : k = 7) : accS k xs ns i + sizeV (xs[i]'h) + textN (ns[i]'hn) = accS k xs ns (i + 1) := by
  simp only [accS, if_pos h7, sizesV_snoc h, namesN_snoc hn]; omega
theorem accS_le (k : Int) (xs : List Val) (ns : List Str) (i : Nat) : accS k xs ns i ≤ 11 + 12 * szVs xs + 11 * szN ns := by
  have h1 := sizesV_le xs
  have h2 := namesN_le ns
  have h3 := cntN_le xs.length
  have h4 := sizesV_take xs i
  have h5 := namesN_take ns i
  unfold accS
  split <;> split <;> omega
theorem accS_end {k i : Int} {t : Str} {xs : List Val} {ns : List Str} (hm : mayV (.mk k i t xs ns) = true) (h2 : ¬ k = 2) (h3 : ¬ k = 3) (h4 : ¬ (k = 4 ∨ k = 5)) : accS k xs ns xs.length = sizeV (.mk k i t xs ns) := by
  have hx : xs.take xs.length = xs := List.take_length
  simp only [accS, sizeV, hx]
  have hk : k = 1 ∨ k = 6 ∨ k = 7 := by
    simp only [mayV, kindOk, Bool.and_eq_true] at hm
    have := hm.2
    by_cases k = 1 <;> by_cases k = 6 <;> by_cases k = 7 <;> simp_all
  rcases hk with rfl | rfl | rfl
  · have : xs = [] := by simp [mayV, kindOk] at hm; exact hm.2.1.2
    subst this
    simp [sizesV]
  · have : ns = [] := by simp [mayV, kindOk] at hm; exact hm.2.2
    subst this
    simp [namesN]
  · have hl := may7 hm
    have : ns.take xs.length = ns := by rw [← hl]; exact List.take_length
    simp [this]

theorem fn117 : FnOk Tryz.prog 117 62 [2] (bodyOf Tryz.f117) := ⟨Tryz.f117, Tryz.func117, by kernel_rfl, by decide, by kernel_rfl, by kernel_rfl⟩
theorem s117A (m : Nat) : ∀ v : Val, SizeOf.sizeOf v < m → mayV v = true → rngV v → szV v ≤ 1099511627776 → PSpec Tryz.prog 117 [.d (encV v)] (.d (.int .i64 (sizeV v : Int))) := by
 induction m with
 | zero => intros; omega
 | succ m ih =>
  rintro ⟨kd, it, tx, xs, ns⟩ hv hmy hrg hsz
  have hsz2 : 1 + tx.length + szVs xs + szN ns ≤ 1099511627776 := hsz
  have hxl := szVs_len xs
  have hnl := szN_len ns
  have hs1 := sizesV_le xs
  have hs2 := namesN_le ns
  have hc1 := cntN_le xs.length
  have hz1 := zig_le it
  have ht1 := textN_le tx
  have hln := encVs_length xs
  refine PSpec.of fn117 (by simp) fun o nk => ?_
  refine wr ?_
  refine u_step (g_box rfl fun o2 hb2 hk2 => ?_)
  refine ua ?_
  refine u_nil ?_
  refine wr ?_
  refine ua ?_
  refine u_nil ?_
  refine WP.seq fun K4 hK4 => ?_
  refine wr ?_
  refine uf th27 th3 hb2 ?_
  refine ul th3 hb2 ?_
  refine u_nil ?_
  refine WP.block ?_
  refine wr ?_
  refine ub ?_
  refine ua ?_
  refine u_nil ?_
  refine wc (fun hc7 => ?_) (fun hc7 => ?_) <;> try simp only [Q0, Q1, Q2, Q3, Q4, Q5, Q6, Q7, Q8, ge_iff_le, gt_iff_lt] at hc7
  ·
   refine wr ?_
   refine ua ?_
   refine u_nil ?_
   refine WP.ret ?_
   refine ret_ok rfl ?_ (by omega) (fun t ht => (hk2 t (by omega)))
   -- ret 1
   clear hK4
   refine congrArg (D.int .i64) ?_
   simp only [beq_iff_eq, beq_eq_false_iff_ne, ne_eq, Bool.or_eq_true, Bool.or_eq_false_iff] at hc7
   have e0 : textN tx = (grp (u64 tx.length)).length + tx.length := rfl
   try simp only [bytesD_length, List.length_append]
   try rw [wrap_i64 (by omega) (by omega)]
   try rw [bytesD_length]
   have h0 : ∀ i, ¬ i < xs.length → xs.take i = xs := fun i h => List.take_of_length_le (by omega)
   have h0n : ∀ i, ¬ i < ns.length → ns.take i = ns := fun i h => List.take_of_length_le (by omega)
   simp only [sizeV]
   grind
  ·
   refine wr ?_
   refine ub ?_
   refine ua ?_
   refine u_nil ?_
   refine wc (fun hc10 => ?_) (fun hc10 => ?_) <;> try simp only [Q0, Q1, Q2, Q3, Q4, Q5, Q6, Q7, Q8, ge_iff_le, gt_iff_lt] at hc10
   ·
    refine wr ?_
    refine uf th27 th3 hb2 ?_
    refine ul th3 hb2 ?_
    refine u_step (o_rcall (s141 it hrg.1.1 hrg.1.2) rfl fun q12 o12 nk12 hqa12 hqb12 hb12 hk12 => ?_)
    have hb2_12 := (hk12 _ (by omega)).trans hb2
    refine u_step (o_len_row rfl th52 rfl hb12 ?_)
    refine ub ?_
    refine ua ?_
    refine u_nil ?_
    refine WP.ret ?_
    refine ret_ok rfl ?_ (by omega) (fun t ht => (hk12 t (by omega)).trans ((hk2 t (by omega))))
    -- ret 2
    clear hK4
    refine congrArg (D.int .i64) ?_
    simp only [beq_iff_eq, beq_eq_false_iff_ne, ne_eq, Bool.or_eq_true, Bool.or_eq_false_iff] at hc7 hc10
    have e0 : textN tx = (grp (u64 tx.length)).length + tx.length := rfl
    try simp only [bytesD_length, List.length_append]
    try rw [wrap_i64 (by omega) (by omega)]
    try rw [bytesD_length]
    have h0 : ∀ i, ¬ i < xs.length → xs.take i = xs := fun i h => List.take_of_length_le (by omega)
    have h0n : ∀ i, ¬ i < ns.length → ns.take i = ns := fun i h => List.take_of_length_le (by omega)
    simp only [sizeV]
    grind
   ·
    refine WP.seqJ ⟨al [(1, .loc nk 0), (3, .d (.int .i64 1)), (6, .d (.int .i64 kd)), (16, .d (.bool (kd == 4 || kd == 5)))], o2, (nk + 1)⟩ ?_ ?_
    ·
     refine wr ?_
     refine ub ?_
     refine ua ?_
     refine u_nil ?_
     refine wc (fun hc14 => ?_) (fun hc14 => ?_) <;> try simp only [Q0, Q1, Q2, Q3, Q4, Q5, Q6, Q7, Q8, ge_iff_le, gt_iff_lt] at hc14
     ·
      refine WP.skip ?_
      refine Le.al ?_
      simp only [List.forall_mem_cons]
      refine ⟨rfl, rfl, rfl, ?_, by simp⟩
      first | (show SV.d (.bool (kd == (4 : Int))) = _; simp only [hc14, Bool.true_or]) | (show SV.d (.bool (kd == (5 : Int))) = _; simp only [hc14, Bool.false_or])
     ·
      refine WP.reg tabOk rfl ?_
      refine ub ?_
      refine ua ?_
      refine u_nil ?_
      refine Le.al ?_
      simp only [List.forall_mem_cons]
      refine ⟨rfl, rfl, rfl, ?_, by simp⟩
      first | (show SV.d (.bool (kd == (4 : Int))) = _; simp only [hc14, Bool.true_or]) | (show SV.d (.bool (kd == (5 : Int))) = _; simp only [hc14, Bool.false_or])
    ·
     refine wc (fun hc15 => ?_) (fun hc15 => ?_) <;> try simp only [Q0, Q1, Q2, Q3, Q4, Q5, Q6, Q7, Q8, ge_iff_le, gt_iff_lt] at hc15
     ·
      refine wr ?_
      refine uf th27 th9 hb2 ?_
      refine ul th9 hb2 ?_
      refine u_step (o_rcall (s89 tx (by omega)) rfl fun q17 o17 nk17 hqa17 hqb17 hb17 hk17 => ?_)
      have hb2_17 := (hk17 _ (by omega)).trans hb2
      refine u_step (o_len_row rfl th52 rfl hb17 ?_)
      refine ub ?_
      refine ua ?_
      refine u_nil ?_
      refine WP.ret ?_
      refine ret_ok rfl ?_ (by omega) (fun t ht => (hk17 t (by omega)).trans ((hk2 t (by omega))))
      -- ret 3
      clear hK4
      refine congrArg (D.int .i64) ?_
      simp only [beq_iff_eq, beq_eq_false_iff_ne, ne_eq, Bool.or_eq_true, Bool.or_eq_false_iff] at hc7 hc10 hc15
      have e0 : textN tx = (grp (u64 tx.length)).length + tx.length := rfl
      try simp only [bytesD_length, List.length_append]
      try rw [wrap_i64 (by omega) (by omega)]
      try rw [bytesD_length]
      have h0 : ∀ i, ¬ i < xs.length → xs.take i = xs := fun i h => List.take_of_length_le (by omega)
      have h0n : ∀ i, ¬ i < ns.length → ns.take i = ns := fun i h => List.take_of_length_le (by omega)
      simp only [sizeV]
      grind
     ·
      refine WP.seqJ ⟨al [(1, .loc nk 0), (3, .d (.int .i64 1)), (6, .d (.int .i64 kd)), (24, .d (.bool (kd == 6 || kd == 7)))], o2, (nk + 1)⟩ ?_ ?_
      ·
       refine wr ?_
       refine ub ?_
       refine ua ?_
       refine u_nil ?_
       refine wc (fun hc19 => ?_) (fun hc19 => ?_) <;> try simp only [Q0, Q1, Q2, Q3, Q4, Q5, Q6, Q7, Q8, ge_iff_le, gt_iff_lt] at hc19
       ·
        refine WP.skip ?_
        refine Le.al ?_
        simp only [List.forall_mem_cons]
        refine ⟨rfl, rfl, rfl, ?_, by simp⟩
        first | (show SV.d (.bool (kd == (6 : Int))) = _; simp only [hc19, Bool.true_or]) | (show SV.d (.bool (kd == (7 : Int))) = _; simp only [hc19, Bool.false_or])
       ·
        refine WP.reg tabOk rfl ?_
        refine ub ?_
        refine ua ?_
        refine u_nil ?_
        refine Le.al ?_
        simp only [List.forall_mem_cons]
        refine ⟨rfl, rfl, rfl, ?_, by simp⟩
        first | (show SV.d (.bool (kd == (6 : Int))) = _; simp only [hc19, Bool.true_or]) | (show SV.d (.bool (kd == (7 : Int))) = _; simp only [hc19, Bool.false_or])
      ·
       refine wc (fun hc20 => ?_) (fun hc20 => ?_) <;> try simp only [Q0, Q1, Q2, Q3, Q4, Q5, Q6, Q7, Q8, ge_iff_le, gt_iff_lt] at hc20
       ·
        refine WP.reg tabOk rfl ?_
        refine um ?_
        refine uf th27 th25 hb2 ?_
        refine ul th25 hb2 ?_
        refine un th25 ?_
        refine u_step (o_rcall (s88 _) rfl fun q21 o21 nk21 hqa21 hqb21 hb21 hk21 => ?_)
        have hb2_21 := (hk21 _ (by omega)).trans hb2
        refine u_step (o_len_row rfl th52 rfl hb21 ?_)
        refine ub ?_
        refine ua ?_
        refine u_nil ?_
        refine hK4 _ ?_
        refine WP.seq fun K22 hK22 => ?_
        refine wr ?_
        refine ua ?_
        refine u_nil ?_
        refine WP.block ?_
        refine WP.loopL (ι := Nat × (Nat → Option AO) × Nat) (fun ⟨i, o2, nk2⟩ => ⟨al [(1, .loc nk 0), (3, .d (.int .i64 (accS kd xs ns i : Nat))), (4, .d (.int .i64 i))], o2, nk2⟩) (fun ⟨i, o2, nk2⟩ => i ≤ xs.length ∧ nk < nk2 ∧ o2 nk = some (.box (([.int .i64 kd, .int .i64 it, .str tx, .sl 5 (encVs xs), .sl 1 (ns.map .str)] : List D).map .d)) ∧ (∀ t, t < nk → o2 t = o t)) (fun ⟨i, o2, nk2⟩ => xs.length - i) (fun ⟨i, o2, nk2⟩ hA => ?_) ⟨0, o21, nk21⟩ ?_ ?_
        ·
         obtain ⟨hle, hnk, hob, hfr⟩ := hA
         refine WP.seq fun K24 hK24 => ?_
         refine wr ?_
         refine um ?_
         refine uf th27 th25 hob ?_
         refine ul th25 hob ?_
         refine un th25 ?_
         refine ub ?_
         refine u_nil ?_
         refine wc (fun hc26 => ?_) (fun hc26 => ?_) <;> try simp only [Q0, Q1, Q2, Q3, Q4, Q5, Q6, Q7, Q8, ge_iff_le, gt_iff_lt] at hc26
         ·
          refine WP.skip ?_
          refine hK24 _ ?_
          refine WP.seq fun K27 hK27 => ?_
          refine WP.block ?_
          refine wr ?_
          refine um ?_
          refine uf th27 th25 hob ?_
          refine ul th25 hob ?_
          refine um ?_
          first | refine u_step (o_ia_map rfl rfl th25 rfl th27 rfl (by omega) ?_) | refine u_step (o_ia_vs rfl rfl th25 rfl th27 rfl (by omega) ?_)
          refine uL th27 ?_
          refine u_step (o_pcall (ih _ (by exact items_lt' (by omega) hv) (by exact may_items hmy (by omega)) (by exact rngVs_get hrg.2 (by omega)) (by have := szVs_get (xs := xs) (j := i) (by omega); omega)) rfl ?_)
          refine ub ?_
          refine ua ?_
          refine u_nil ?_
          refine wr ?_
          refine uf th27 th3 hob ?_
          refine ul th3 hob ?_
          refine ub ?_
          refine u_nil ?_
          refine wc (fun hc30 => ?_) (fun hc30 => ?_) <;> try simp only [Q0, Q1, Q2, Q3, Q4, Q5, Q6, Q7, Q8, ge_iff_le, gt_iff_lt] at hc30
          ·
           have hk7 : kd = 7 := by simpa using hc30
           have hln7 : ns.length = xs.length := by subst hk7; exact may7 hmy
           have hni := szN_get (xs := ns) (j := i) (by omega)
           have htn := textN_le ns[i]
           refine WP.reg tabOk rfl ?_
           refine um ?_
           refine uf th27 th22 hob ?_
           refine ul th22 hob ?_
           refine um ?_
           first | refine u_step (o_ia_map rfl rfl th22 rfl th9 rfl (by omega) ?_) | refine u_step (o_ia_vs rfl rfl th22 rfl th9 rfl (by omega) ?_)
           refine uL th9 ?_
           refine u_step (o_rcall (s89 _ (by have := szN_get (xs := ns) (j := i) (by omega); omega)) rfl fun q31 o31 nk31 hqa31 hqb31 hb31 hk31 => ?_)
           have hob_31 := (hk31 _ (by omega)).trans hob
           refine u_step (o_len_row rfl th52 rfl hb31 ?_)
           refine ub ?_
           refine ua ?_
           refine u_nil ?_
           refine hK27 _ ?_
           refine WP.reg tabOk rfl ?_
           refine um ?_
           refine ub ?_
           refine ua ?_
           refine u_nil ?_
           -- back
           have hal := accS_le kd xs ns (i + 1)
           refine ⟨⟨i + 1, o31, nk31⟩, ⟨by omega, by omega, hob_31, (fun t ht => (hk31 t (by omega)).trans ((hfr t (by omega))))⟩, by simp only; omega, ?_⟩
           refine Le.al ?_
           simp only [List.forall_mem_cons]
           refine ⟨rfl, ?_, cnt (by omega), by simp⟩
           first | exact add_w2 (by rw [bytesD_length, List.length_append]; exact accS_b (by omega) (by omega) hk7) (by omega) | exact add_w (accS_a (by omega) (by simpa using hc30)) (by omega)
          ·
           refine WP.skip ?_
           refine hK27 _ ?_
           refine WP.reg tabOk rfl ?_
           refine um ?_
           refine ub ?_
           refine ua ?_
           refine u_nil ?_
           -- back
           have hal := accS_le kd xs ns (i + 1)
           refine ⟨⟨i + 1, o2, nk2⟩, ⟨by omega, by omega, hob, (fun t ht => (hfr t (by omega)))⟩, by simp only; omega, ?_⟩
           refine Le.al ?_
           simp only [List.forall_mem_cons]
           refine ⟨rfl, ?_, cnt (by omega), by simp⟩
           first | exact add_w2 (by rw [bytesD_length, List.length_append]; exact accS_b (by omega) (by omega) hk7) (by omega) | exact add_w (accS_a (by omega) (by simpa using hc30)) (by omega)
         ·
          refine WP.exit ?_
          refine hK22 _ ?_
          refine wr ?_
          refine um ?_
          refine ua ?_
          refine u_nil ?_
          refine WP.ret ?_
          refine ret_ok rfl ?_ (by omega) (fun t ht => (hfr t (by omega)))
          -- ret 4
          clear hK4 hK22 hK24
          refine congrArg (D.int .i64) ?_
          simp only [beq_iff_eq, beq_eq_false_iff_ne, ne_eq, Bool.or_eq_true, Bool.or_eq_false_iff] at hc7 hc10 hc15 hc20 hc26
          have hi : i = xs.length := by omega
          rw [hi]
          exact congrArg _ (accS_end hmy (by grind) (by grind) (by grind))
        ·
         refine ⟨by simp, by omega, hb2_21, (fun t ht => (hk21 t (by omega)).trans ((hk2 t (by omega))))⟩
        ·
         refine Le.al ?_
         simp only [List.forall_mem_cons]
         refine ⟨rfl, ?_, rfl, by simp⟩
         first | exact add_w1 (by (have hk : kd = 6 ∨ kd = 7 := (by simpa using hc20)); (simp only [accS, if_pos hk, bytesD_length, hln, cntN, List.take_zero, sizesV, namesN]); (split <;> omega)) (by have := accS_le kd xs ns 0; omega) | (have hk : ¬ (kd = 6 ∨ kd = 7) := (by simpa using hc20); show SV.d (.int .i64 1) = _; have h1 : accS kd xs ns 0 = 1 := (by simp only [accS, if_neg hk, List.take_zero, sizesV, namesN]; split <;> rfl); rw [h1]; rfl)
       ·
        refine WP.skip ?_
        refine hK4 _ ?_
        refine WP.seq fun K33 hK33 => ?_
        refine wr ?_
        refine ua ?_
        refine u_nil ?_
        refine WP.block ?_
        refine WP.loopL (ι := Nat × (Nat → Option AO) × Nat) (fun ⟨i, o2, nk2⟩ => ⟨al [(1, .loc nk 0), (3, .d (.int .i64 (accS kd xs ns i : Nat))), (4, .d (.int .i64 i))], o2, nk2⟩) (fun ⟨i, o2, nk2⟩ => i ≤ xs.length ∧ nk < nk2 ∧ o2 nk = some (.box (([.int .i64 kd, .int .i64 it, .str tx, .sl 5 (encVs xs), .sl 1 (ns.map .str)] : List D).map .d)) ∧ (∀ t, t < nk → o2 t = o t)) (fun ⟨i, o2, nk2⟩ => xs.length - i) (fun ⟨i, o2, nk2⟩ hA => ?_) ⟨0, o2, (nk + 1)⟩ ?_ ?_
        ·
         obtain ⟨hle, hnk, hob, hfr⟩ := hA
         refine WP.seq fun K35 hK35 => ?_
         refine wr ?_
         refine um ?_
         refine uf th27 th25 hob ?_
         refine ul th25 hob ?_
         refine un th25 ?_
         refine ub ?_
         refine u_nil ?_
         refine wc (fun hc37 => ?_) (fun hc37 => ?_) <;> try simp only [Q0, Q1, Q2, Q3, Q4, Q5, Q6, Q7, Q8, ge_iff_le, gt_iff_lt] at hc37
         ·
          refine WP.skip ?_
          refine hK35 _ ?_
          refine WP.seq fun K38 hK38 => ?_
          refine WP.block ?_
          refine wr ?_
          refine um ?_
          refine uf th27 th25 hob ?_
          refine ul th25 hob ?_
          refine um ?_
          first | refine u_step (o_ia_map rfl rfl th25 rfl th27 rfl (by omega) ?_) | refine u_step (o_ia_vs rfl rfl th25 rfl th27 rfl (by omega) ?_)
          refine uL th27 ?_
          refine u_step (o_pcall (ih _ (by exact items_lt' (by omega) hv) (by exact may_items hmy (by omega)) (by exact rngVs_get hrg.2 (by omega)) (by have := szVs_get (xs := xs) (j := i) (by omega); omega)) rfl ?_)
          refine ub ?_
          refine ua ?_
          refine u_nil ?_
          refine wr ?_
          refine uf th27 th3 hob ?_
          refine ul th3 hob ?_
          refine ub ?_
          refine u_nil ?_
          refine wc (fun hc41 => ?_) (fun hc41 => ?_) <;> try simp only [Q0, Q1, Q2, Q3, Q4, Q5, Q6, Q7, Q8, ge_iff_le, gt_iff_lt] at hc41
          ·
           have hk7 : kd = 7 := by simpa using hc41
           have hln7 : ns.length = xs.length := by subst hk7; exact may7 hmy
           have hni := szN_get (xs := ns) (j := i) (by omega)
           have htn := textN_le ns[i]
           refine WP.reg tabOk rfl ?_
           refine um ?_
           refine uf th27 th22 hob ?_
           refine ul th22 hob ?_
           refine um ?_
           first | refine u_step (o_ia_map rfl rfl th22 rfl th9 rfl (by omega) ?_) | refine u_step (o_ia_vs rfl rfl th22 rfl th9 rfl (by omega) ?_)
           refine uL th9 ?_
           refine u_step (o_rcall (s89 _ (by have := szN_get (xs := ns) (j := i) (by omega); omega)) rfl fun q42 o42 nk42 hqa42 hqb42 hb42 hk42 => ?_)
           have hob_42 := (hk42 _ (by omega)).trans hob
           refine u_step (o_len_row rfl th52 rfl hb42 ?_)
           refine ub ?_
           refine ua ?_
           refine u_nil ?_
           refine hK38 _ ?_
           refine WP.reg tabOk rfl ?_
           refine um ?_
           refine ub ?_
           refine ua ?_
           refine u_nil ?_
           -- back
           have hal := accS_le kd xs ns (i + 1)
           refine ⟨⟨i + 1, o42, nk42⟩, ⟨by omega, by omega, hob_42, (fun t ht => (hk42 t (by omega)).trans ((hfr t (by omega))))⟩, by simp only; omega, ?_⟩
           refine Le.al ?_
           simp only [List.forall_mem_cons]
           refine ⟨rfl, ?_, cnt (by omega), by simp⟩
           first | exact add_w2 (by rw [bytesD_length, List.length_append]; exact accS_b (by omega) (by omega) hk7) (by omega) | exact add_w (accS_a (by omega) (by simpa using hc41)) (by omega)
          ·
           refine WP.skip ?_
           refine hK38 _ ?_
           refine WP.reg tabOk rfl ?_
           refine um ?_
           refine ub ?_
           refine ua ?_
           refine u_nil ?_
           -- back
           have hal := accS_le kd xs ns (i + 1)
           refine ⟨⟨i + 1, o2, nk2⟩, ⟨by omega, by omega, hob, (fun t ht => (hfr t (by omega)))⟩, by simp only; omega, ?_⟩
           refine Le.al ?_
           simp only [List.forall_mem_cons]
           refine ⟨rfl, ?_, cnt (by omega), by simp⟩
           first | exact add_w2 (by rw [bytesD_length, List.length_append]; exact accS_b (by omega) (by omega) hk7) (by omega) | exact add_w (accS_a (by omega) (by simpa using hc41)) (by omega)
         ·
          refine WP.exit ?_
          refine hK33 _ ?_
          refine wr ?_
          refine um ?_
          refine ua ?_
          refine u_nil ?_
          refine WP.ret ?_
          refine ret_ok rfl ?_ (by omega) (fun t ht => (hfr t (by omega)))
          -- ret 5
          clear hK4 hK33 hK35
          refine congrArg (D.int .i64) ?_
          simp only [beq_iff_eq, beq_eq_false_iff_ne, ne_eq, Bool.or_eq_true, Bool.or_eq_false_iff] at hc7 hc10 hc15 hc20 hc37
          have hi : i = xs.length := by omega
          rw [hi]
          exact congrArg _ (accS_end hmy (by grind) (by grind) (by grind))
        ·
         refine ⟨by simp, by omega, hb2, (fun t ht => (hk2 t (by omega)))⟩
        ·
         refine Le.al ?_
         simp only [List.forall_mem_cons]
         refine ⟨rfl, ?_, rfl, by simp⟩
         first | exact add_w1 (by (have hk : kd = 6 ∨ kd = 7 := (by simpa using hc20)); (simp only [accS, if_pos hk, bytesD_length, hln, cntN, List.take_zero, sizesV, namesN]); (split <;> omega)) (by have := accS_le kd xs ns 0; omega) | (have hk : ¬ (kd = 6 ∨ kd = 7) := (by simpa using hc20); show SV.d (.int .i64 1) = _; have h1 : accS kd xs ns 0 = 1 := (by simp only [accS, if_neg hk, List.take_zero, sizesV, namesN]; split <;> rfl); rw [h1]; rfl)
theorem s117 (v : Val) (hmy : mayV v = true) (hrg : rngV v) (hsz : szV v ≤ 1099511627776) : PSpec Tryz.prog 117 [.d (encV v)] (.d (.int .i64 (sizeV v : Int))) := s117A _ v (Nat.lt_succ_self _) hmy hrg hsz

end Go.Proofs.YtpkcbdhjnnnkbaaGreat.Abs

set_option linter.unusedVariables false
set_option linter.unusedSimpArgs false
set_option maxRecDepth 10000
namespace Go.Proofs.YtpkcbdhjnnnkbaaGreat.Abs
open Go
/-- What is wrong with a value. -/
def checkV (v : Val) : Int := if mayV v = false then 20 else if 8 < depthV v then 21 else if 4096 < sizeV v then 22 else 0

theorem fn123 : FnOk Tryz.prog 123 15 [2] (bodyOf Tryz.f123) := ⟨Tryz.f123, Tryz.func123, by kernel_rfl, by decide, by kernel_rfl, by kernel_rfl⟩
theorem s123 (v : Val) (hrg : rngV v) (hsz : szV v ≤ 1099511627776) : PSpec Tryz.prog 123 [.d (encV v)] (.d (.int .i64 (checkV v))) := by
 obtain ⟨kd, it, tx, xs, ns⟩ := v
 refine PSpec.of fn123 (by simp) fun o nk => ?_
 refine wr ?_
 refine u_step (g_box rfl fun o2 hb2 hk2 => ?_)
 refine ua ?_
 refine u_nil ?_
 refine WP.seq fun K3 hK3 => ?_
 refine WP.block ?_
 refine wr ?_
 refine ug th27 hb2 ?_
 refine u_step (o_pcall (s76 (.mk kd it tx xs ns)) rfl ?_)
 refine uN ?_
 refine ua ?_
 refine u_nil ?_
 refine wc (fun hc5 => ?_) (fun hc5 => ?_) <;> try simp only [Q0, Q1, Q2, Q3, Q4, Q5, Q6, Q7, Q8, ge_iff_le, gt_iff_lt] at hc5
 ·
  refine wr ?_
  refine ua ?_
  refine u_nil ?_
  refine WP.ret ?_
  refine ret_ok rfl ?_ (by omega) (fun t ht => (hk2 t (by omega)))
  -- ret 1
  clear hK3
  refine congrArg (D.int .i64) ?_
  simp only [checkV]
  grind
 ·
  refine wr ?_
  refine ug th27 hb2 ?_
  refine u_step (o_pcall (s160 (.mk kd it tx xs ns) hsz) rfl ?_)
  refine ub ?_
  refine ua ?_
  refine u_nil ?_
  refine wc (fun hc8 => ?_) (fun hc8 => ?_) <;> try simp only [Q0, Q1, Q2, Q3, Q4, Q5, Q6, Q7, Q8, ge_iff_le, gt_iff_lt] at hc8
  ·
   refine wr ?_
   refine ua ?_
   refine u_nil ?_
   refine WP.ret ?_
   refine ret_ok rfl ?_ (by omega) (fun t ht => (hk2 t (by omega)))
   -- ret 2
   clear hK3
   refine congrArg (D.int .i64) ?_
   simp only [checkV]
   grind
  ·
   refine wr ?_
   refine ug th27 hb2 ?_
   refine u_step (o_pcall (s161 (.mk kd it tx xs ns) (by assumption) hrg hsz) rfl ?_)
   refine ub ?_
   refine ua ?_
   refine u_nil ?_
   refine wc (fun hc11 => ?_) (fun hc11 => ?_) <;> try simp only [Q0, Q1, Q2, Q3, Q4, Q5, Q6, Q7, Q8, ge_iff_le, gt_iff_lt] at hc11
   ·
    refine wr ?_
    refine ua ?_
    refine u_nil ?_
    refine WP.ret ?_
    refine ret_ok rfl ?_ (by omega) (fun t ht => (hk2 t (by omega)))
    -- ret 3
    clear hK3
    refine congrArg (D.int .i64) ?_
    simp only [checkV]
    grind
   ·
    refine WP.skip ?_
    refine hK3 _ ?_
    refine wr ?_
    refine ua ?_
    refine u_nil ?_
    refine WP.ret ?_
    refine ret_ok rfl ?_ (by omega) (fun t ht => (hk2 t (by omega)))
    -- ret 4
    clear hK3
    refine congrArg (D.int .i64) ?_
    simp only [checkV]
    grind

theorem fn66 : FnOk Tryz.prog 66 15 [2] (bodyOf Tryz.f66) := ⟨Tryz.f66, Tryz.func66, by kernel_rfl, by decide, by kernel_rfl, by kernel_rfl⟩
theorem s66 (v : Val) (hrg : rngV v) (hsz : szV v ≤ 1099511627776) : PSpec Tryz.prog 66 [.d (encV v)] (.d (.int .i64 (checkV v))) := by
 obtain ⟨kd, it, tx, xs, ns⟩ := v
 refine PSpec.of fn66 (by simp) fun o nk => ?_
 refine wr ?_
 refine u_step (g_box rfl fun o2 hb2 hk2 => ?_)
 refine ua ?_
 refine u_nil ?_
 refine WP.seq fun K3 hK3 => ?_
 refine WP.block ?_
 refine wr ?_
 refine ug th27 hb2 ?_
 refine u_step (o_pcall (s80 (.mk kd it tx xs ns)) rfl ?_)
 refine uN ?_
 refine ua ?_
 refine u_nil ?_
 refine wc (fun hc5 => ?_) (fun hc5 => ?_) <;> try simp only [Q0, Q1, Q2, Q3, Q4, Q5, Q6, Q7, Q8, ge_iff_le, gt_iff_lt] at hc5
 ·
  refine wr ?_
  refine ua ?_
  refine u_nil ?_
  refine WP.ret ?_
  refine ret_ok rfl ?_ (by omega) (fun t ht => (hk2 t (by omega)))
  -- ret 1
  clear hK3
  refine congrArg (D.int .i64) ?_
  simp only [checkV]
  grind
 ·
  refine wr ?_
  refine ug th27 hb2 ?_
  refine u_step (o_pcall (s116 (.mk kd it tx xs ns) hsz) rfl ?_)
  refine ub ?_
  refine ua ?_
  refine u_nil ?_
  refine wc (fun hc8 => ?_) (fun hc8 => ?_) <;> try simp only [Q0, Q1, Q2, Q3, Q4, Q5, Q6, Q7, Q8, ge_iff_le, gt_iff_lt] at hc8
  ·
   refine wr ?_
   refine ua ?_
   refine u_nil ?_
   refine WP.ret ?_
   refine ret_ok rfl ?_ (by omega) (fun t ht => (hk2 t (by omega)))
   -- ret 2
   clear hK3
   refine congrArg (D.int .i64) ?_
   simp only [checkV]
   grind
  ·
   refine wr ?_
   refine ug th27 hb2 ?_
   refine u_step (o_pcall (s117 (.mk kd it tx xs ns) (by assumption) hrg hsz) rfl ?_)
   refine ub ?_
   refine ua ?_
   refine u_nil ?_
   refine wc (fun hc11 => ?_) (fun hc11 => ?_) <;> try simp only [Q0, Q1, Q2, Q3, Q4, Q5, Q6, Q7, Q8, ge_iff_le, gt_iff_lt] at hc11
   ·
    refine wr ?_
    refine ua ?_
    refine u_nil ?_
    refine WP.ret ?_
    refine ret_ok rfl ?_ (by omega) (fun t ht => (hk2 t (by omega)))
    -- ret 3
    clear hK3
    refine congrArg (D.int .i64) ?_
    simp only [checkV]
    grind
   ·
    refine WP.skip ?_
    refine hK3 _ ?_
    refine wr ?_
    refine ua ?_
    refine u_nil ?_
    refine WP.ret ?_
    refine ret_ok rfl ?_ (by omega) (fun t ht => (hk2 t (by omega)))
    -- ret 4
    clear hK3
    refine congrArg (D.int .i64) ?_
    simp only [checkV]
    grind

end Go.Proofs.YtpkcbdhjnnnkbaaGreat.Abs

set_option linter.unusedVariables false
set_option linter.unusedSimpArgs false
set_option maxRecDepth 10000
namespace Go.Proofs.YtpkcbdhjnnnkbaaGreat.Abs
open Go
/-- Nothing at all. -/
def noneV (v : Val) : Bool := decide (v.kind = 0 ∧ v.int = 0 ∧ v.text = [] ∧ v.items = [] ∧ v.names = [])
theorem same_iff {k k' i i' : Int} {t t' : Str} {xs ys : List Val} {ns ms : List Str} : sameV (.mk k i t xs ns) (.mk k' i' t' ys ms) = true ↔ k = k' ∧ i = i' ∧ t = t' ∧ xs = ys ∧ ns = ms := by
  simp [sameV]
theorem same_refl (v : Val) : sameV v v = true := by simp [sameV]
theorem same_eq {v w : Val} : sameV v w = true ↔ v = w := by simp [sameV]
theorem same_ne {v w : Val} (h : v ≠ w) : sameV v w = false := by simp [sameV, h]
theorem any_not {α : Type} (xs : List α) (p : α → Bool) : (xs.any fun x => !p x) = !xs.all p := by
  induction xs with
  | nil => rfl
  | cons x xs ih => simp [ih, Bool.not_and]
theorem none_mk (k i : Int) (t : Str) (xs : List Val) (ns : List Str) : noneV (.mk k i t xs ns) = decide (k = 0 ∧ i = 0 ∧ t = [] ∧ xs = [] ∧ ns = []) := rfl
theorem none_same (v : Val) : sameV v (.mk 0 0 [] [] []) = noneV v := by
  cases v
  rw [Bool.eq_iff_iff, same_iff, none_mk, decide_eq_true_eq]

theorem fn110 : FnOk Tryz.prog 110 6 [2] (bodyOf Tryz.f110) := ⟨Tryz.f110, Tryz.func110, by kernel_rfl, by decide, by kernel_rfl, by kernel_rfl⟩
theorem s110 (s : Str) : PSpec Tryz.prog 110 [.d (.str s)] (.d (.bool (!nameV s))) := by
 refine PSpec.of fn110 (by simp) fun o nk => ?_
 refine wr ?_
 refine ua ?_
 refine u_nil ?_
 refine wr ?_
 refine um ?_
 refine u_step (o_pcall (s111 _) rfl ?_)
 refine uN ?_
 refine ua ?_
 refine u_nil ?_
 refine WP.ret ?_
 refine ret_ok rfl ?_ (by omega) (fun _ _ => rfl)
 -- ret 1
 rfl

theorem fn56 : FnOk Tryz.prog 56 18 [2] (bodyOf Tryz.f56) := ⟨Tryz.f56, Tryz.func56, by kernel_rfl, by decide, by kernel_rfl, by kernel_rfl⟩
theorem s56 (ns : List Str) : PSpec Tryz.prog 56 [.d (.sl 1 (ns.map .str))] (.d (.bool (pathV ns))) := by
 refine PSpec.of fn56 (by simp) fun o nk => ?_
 refine wr ?_
 refine ua ?_
 refine u_nil ?_
 refine wr ?_
 refine u_step (o_assignV (v := .clo _ _ _) rfl ?_)
 refine u_nil ?_
 refine wr ?_
 refine um ?_
 refine un th22 ?_
 refine ub ?_
 refine um ?_
 apply gT
 · rfl
 · intro hg
   exact pm
 apply gT
 · rfl
 · intro hg; try simp only [hg, ct]; try simp only [hg, ct, Bt]
   exact pn th22
 apply gT
 · rfl
 · intro hg; try simp only [hg, ct]; try simp only [hg, ct, Bt]
   exact pb
 refine uA ?_
 refine um ?_
 apply gT
 · rfl
 · intro hg
   exact pm
 apply gT
 · rfl
 · intro hg
   refine o_moveV (v := .clo _ _ _) rfl ⟨rfl, rfl, rfl⟩
 apply gT
 · rfl
 · intro hg; try simp only [hg, ct]; try simp only [hg, ct, Bt]
   refine o_scall (s112 ns 110 [] [] (fun s => !nameV s) (fun x hx => s110 x _ _)) rfl ⟨rfl, rfl, rfl⟩
 apply gT
 · rfl
 · intro hg; try simp only [hg, ct]; try simp only [hg, ct, Bt]
   exact pN
 refine uA ?_
 refine ua ?_
 refine u_nil ?_
 refine WP.ret ?_
 refine ret_ok rfl ?_ (by omega) (fun _ _ => rfl)
 -- ret 1
 refine congrArg D.bool ?_
 rw [any_not, Bool.eq_iff_iff]
 simp [pathV]
 grind

theorem fn124 : FnOk Tryz.prog 124 26 [2] (bodyOf Tryz.f124) := ⟨Tryz.f124, Tryz.func124, by kernel_rfl, by decide, by kernel_rfl, by kernel_rfl⟩
theorem s124 (v : Val) (hsz : szV v ≤ 1099511627776) : PSpec Tryz.prog 124 [.d (encV v)] (.d (.bool (noneV v))) := by
 obtain ⟨kd, it, tx, xs, ns⟩ := v
 have hsz2 : 1 + tx.length + szVs xs + szN ns ≤ 1099511627776 := hsz
 have hxl := szVs_len xs
 have hnl := szN_len ns
 refine PSpec.of fn124 (by simp) fun o nk => ?_
 refine wr ?_
 refine u_step (g_box rfl fun o2 hb2 hk2 => ?_)
 refine ua ?_
 refine u_nil ?_
 refine wr ?_
 refine uf th27 th3 hb2 ?_
 refine ul th3 hb2 ?_
 refine ub ?_
 refine um ?_
 apply gT
 · rfl
 · intro hg
   exact pf th27 th3 hb2
 apply gT
 · rfl
 · intro hg; try simp only [hg, ct]; try simp only [hg, ct, Bt]
   exact pl th3 hb2
 apply gT
 · rfl
 · intro hg; try simp only [hg, ct]; try simp only [hg, ct, Bt]
   exact pb
 refine uA ?_
 refine um ?_
 apply gT
 · rfl
 · intro hg
   exact pf th27 th9 hb2
 apply gT
 · rfl
 · intro hg; try simp only [hg, ct]; try simp only [hg, ct, Bt]
   exact pl th9 hb2
 apply gT
 · rfl
 · intro hg; try simp only [hg, ct]; try simp only [hg, ct, Bt]
   refine o_bin_str rfl (show _ = SV.d (.str []) from rfl) rfl ⟨rfl, rfl, rfl⟩
 refine uA ?_
 refine um ?_
 apply gT
 · rfl
 · intro hg
   exact pf th27 th25 hb2
 apply gT
 · rfl
 · intro hg; try simp only [hg, ct]; try simp only [hg, ct, Bt]
   exact pl th25 hb2
 apply gT
 · rfl
 · intro hg; try simp only [hg, ct]; try simp only [hg, ct, Bt]
   exact pn th25
 apply gT
 · rfl
 · intro hg
   exact pf th27 th22 hb2
 apply gT
 · rfl
 · intro hg; try simp only [hg, ct]; try simp only [hg, ct, Bt]
   exact pl th22 hb2
 apply gT
 · rfl
 · intro hg; try simp only [hg, ct]; try simp only [hg, ct, Bt]
   exact pn th22
 apply gT
 · rfl
 · intro hg; try simp only [hg, ct]; try simp only [hg, ct, Bt]
   exact pb
 apply gT
 · rfl
 · intro hg; try simp only [hg, ct]; try simp only [hg, ct, Bt]
   exact pb
 refine uA ?_
 refine ua ?_
 refine u_nil ?_
 refine WP.ret ?_
 refine ret_ok rfl ?_ (by omega) (fun t ht => (hk2 t (by omega)))
 -- ret 1
 skip
 refine congrArg D.bool ?_
 rw [wrap_i64 (by rw [encVs_length, List.length_map]; omega) (by rw [encVs_length, List.length_map]; omega), Bool.eq_iff_iff]
 rw [none_mk]
 simp only [Bool.and_eq_true, beq_iff_eq, decide_eq_true_eq, encVs_length, List.length_map]
 rw [← List.length_eq_zero_iff (l := xs), ← List.length_eq_zero_iff (l := ns)]
 grind

end Go.Proofs.YtpkcbdhjnnnkbaaGreat.Abs

set_option linter.unusedVariables false
set_option linter.unusedSimpArgs false
set_option maxRecDepth 10000
namespace Go.Proofs.YtpkcbdhjnnnkbaaGreat.Abs
open Go

theorem fn30 : FnOk Tryz.prog 30 81 [4] (bodyOf Tryz.f30) := ⟨Tryz.f30, Tryz.func30, by kernel_rfl, by decide, by kernel_rfl, by kernel_rfl⟩
theorem s30A (m : Nat) : ∀ (v w : Val), SizeOf.sizeOf v < m → PSpec Tryz.prog 30 [.d (encV v), .d (encV w)] (.d (.bool (sameV v w))) := by
 induction m with
 | zero => intros; omega
 | succ m ih =>
  rintro ⟨kd, it, tx, xs, ns⟩ ⟨kd2, it2, tx2, ys, ms⟩ hv
  refine PSpec.bd fun hbd => ?_
  have hx : xs.length ≤ 9223372036854775807 := by simpa [encVs_length] using hbd.1.2.2.2.1.1
  have hx2 : ns.length ≤ 9223372036854775807 := by simpa using hbd.1.2.2.2.2.1.1
  refine PSpec.of fn30 (by simp) fun o nk => ?_
  refine wr ?_
  refine u_step (g_box rfl fun o2 hb2 hk2 => ?_)
  refine u_step (g_box rfl fun o3 hb3 hk3 => ?_)
  have hb2_3 := (hk3 _ (by omega)).trans hb2
  refine ua ?_
  refine u_nil ?_
  refine WP.seq fun K4 hK4 => ?_
  refine wr ?_
  refine uf th27 th3 hb2_3 ?_
  refine ul th3 hb2_3 ?_
  refine uf th27 th3 hb3 ?_
  refine ul th3 hb3 ?_
  refine ub ?_
  refine um ?_
  apply gF
  · rfl
  · intro hg
    exact pf th27 th3 hb2_3
  apply gF
  · rfl
  · intro hg; try simp only [hg, ct]; try simp only [hg, ct, Bt]
    exact pl th3 hb2_3
  apply gF
  · rfl
  · intro hg
    exact pf th27 th3 hb3
  apply gF
  · rfl
  · intro hg; try simp only [hg, ct]; try simp only [hg, ct, Bt]
    exact pl th3 hb3
  apply gF
  · rfl
  · intro hg; try simp only [hg, ct]; try simp only [hg, ct, Bt]
    exact pb
  refine uO ?_
  refine um ?_
  apply gF
  · rfl
  · intro hg
    exact pf th27 th9 hb2_3
  apply gF
  · rfl
  · intro hg; try simp only [hg, ct]; try simp only [hg, ct, Bt]
    exact pl th9 hb2_3
  apply gF
  · rfl
  · intro hg
    exact pf th27 th9 hb3
  apply gF
  · rfl
  · intro hg; try simp only [hg, ct]; try simp only [hg, ct, Bt]
    exact pl th9 hb3
  apply gF
  · rfl
  · intro hg; try simp only [hg, ct]; try simp only [hg, ct, Bt]
    exact ps
  refine uO ?_
  refine um ?_
  apply gF
  · rfl
  · intro hg
    exact pf th27 th25 hb2_3
  apply gF
  · rfl
  · intro hg; try simp only [hg, ct]; try simp only [hg, ct, Bt]
    exact pl th25 hb2_3
  apply gF
  · rfl
  · intro hg; try simp only [hg, ct]; try simp only [hg, ct, Bt]
    exact pn th25
  apply gF
  · rfl
  · intro hg
    exact pf th27 th25 hb3
  apply gF
  · rfl
  · intro hg; try simp only [hg, ct]; try simp only [hg, ct, Bt]
    exact pl th25 hb3
  apply gF
  · rfl
  · intro hg; try simp only [hg, ct]; try simp only [hg, ct, Bt]
    exact pn th25
  apply gF
  · rfl
  · intro hg; try simp only [hg, ct]; try simp only [hg, ct, Bt]
    exact pb
  refine uO ?_
  refine um ?_
  apply gF
  · rfl
  · intro hg
    exact pf th27 th22 hb2_3
  apply gF
  · rfl
  · intro hg; try simp only [hg, ct]; try simp only [hg, ct, Bt]
    exact pl th22 hb2_3
  apply gF
  · rfl
  · intro hg; try simp only [hg, ct]; try simp only [hg, ct, Bt]
    exact pn th22
  apply gF
  · rfl
  · intro hg
    exact pf th27 th22 hb3
  apply gF
  · rfl
  · intro hg; try simp only [hg, ct]; try simp only [hg, ct, Bt]
    exact pl th22 hb3
  apply gF
  · rfl
  · intro hg; try simp only [hg, ct]; try simp only [hg, ct, Bt]
    exact pn th22
  apply gF
  · rfl
  · intro hg; try simp only [hg, ct]; try simp only [hg, ct, Bt]
    exact pb
  refine uO ?_
  refine u_nil ?_
  refine wc (fun hc6 => ?_) (fun hc6 => ?_) <;> try simp only [Q0, Q1, Q2, Q3, Q4, Q5, Q6, Q7, Q8, ge_iff_le, gt_iff_lt] at hc6
  ·
   refine wr ?_
   refine ua ?_
   refine u_nil ?_
   refine WP.ret ?_
   refine ret_ok rfl ?_ (by omega) (fun t ht => (hk3 t (by omega)).trans ((hk2 t (by omega))))
   -- ret 1
   clear hK4
   refine congrArg D.bool (same_ne ?_).symm
   intro e
   simp only [Val.mk.injEq] at e
   obtain ⟨rfl, rfl, rfl, rfl, rfl⟩ := e
   simp at hc6
  ·
   have hq := hc6
   simp [encVs_length] at hq
   obtain ⟨⟨⟨⟨q1, q2⟩, q3⟩, q4⟩, q5⟩ := hq
   refine WP.skip ?_
   refine hK4 _ ?_
   refine WP.seq fun K8 hK8 => ?_
   refine wr ?_
   refine ua ?_
   refine u_nil ?_
   refine WP.block ?_
   refine WP.loopL (ι := Nat) (fun i => ⟨al [(2, .loc nk 0), (3, .loc (nk + 1) 0), (5, .d (.int .i64 i))], o3, ((nk + 1) + 1)⟩) (fun i => i ≤ xs.length ∧ ∀ (j : Nat) (hj : j < xs.length) (hk : j < ys.length), j < i → xs[j] = ys[j]) (fun i => xs.length - i) (fun i hA => ?_) 0 ?_ ?_
   ·
    obtain ⟨hle_i, hin_i⟩ := hA
    refine WP.seq fun K10 hK10 => ?_
    refine wr ?_
    refine um ?_
    refine uf th27 th25 hb2_3 ?_
    refine ul th25 hb2_3 ?_
    refine un th25 ?_
    refine ub ?_
    refine u_nil ?_
    refine wc (fun hc12 => ?_) (fun hc12 => ?_) <;> try simp only [Q0, Q1, Q2, Q3, Q4, Q5, Q6, Q7, Q8, ge_iff_le, gt_iff_lt] at hc12
    ·
     refine WP.skip ?_
     refine hK10 _ ?_
     refine WP.seq fun K13 hK13 => ?_
     refine WP.block ?_
     refine wd ?_
     refine df th27 th25 hb2_3 ?_
     refine dl th25 hb2_3 ?_
     refine dm ?_
     first | refine d_step (o_ia_map rfl rfl th25 rfl th27 rfl (by omega) ⟨rfl, rfl, rfl⟩) ?_ | refine d_step (o_ia_vs rfl rfl th25 rfl th27 rfl (by omega) ⟨rfl, rfl, rfl⟩) ?_
     refine dL th27 ?_
     refine df th27 th25 hb3 ?_
     refine dl th25 hb3 ?_
     refine dm ?_
     first | refine d_step (o_ia_map rfl rfl th25 rfl th27 rfl (by omega) ⟨rfl, rfl, rfl⟩) ?_ | refine d_step (o_ia_vs rfl rfl th25 rfl th27 rfl (by omega) ⟨rfl, rfl, rfl⟩) ?_
     refine dL th27 ?_
     refine d_step (o_pcall (ih _ _ (by exact items_lt' (by omega) hv)) rfl ⟨rfl, rfl, rfl⟩) ?_
     refine dN ?_
     refine d_nil ?_
     refine wc (fun hc15 => ?_) (fun hc15 => ?_) <;> try simp only [Q0, Q1, Q2, Q3, Q4, Q5, Q6, Q7, Q8, ge_iff_le, gt_iff_lt] at hc15
     ·
      refine wr ?_
      refine ua ?_
      refine u_nil ?_
      refine WP.ret ?_
      refine ret_ok rfl ?_ (by omega) (fun t ht => (hk3 t (by omega)).trans ((hk2 t (by omega))))
      -- ret 2
      clear hK4 hK8 hK10 hK13
      refine congrArg D.bool (same_ne ?_).symm
      intro e
      simp only [Val.mk.injEq] at e
      obtain ⟨rfl, rfl, rfl, rfl, rfl⟩ := e
      rw [same_refl] at hc15; cases hc15
     ·
      refine WP.skip ?_
      refine hK13 _ ?_
      refine WP.reg tabOk rfl ?_
      refine um ?_
      refine ub ?_
      refine ua ?_
      refine u_nil ?_
      -- back
      refine ⟨i + 1, ⟨by omega, ?_⟩, by omega, ?_⟩
      · intro j hj hk h1
        by_cases h2 : j = i
        · subst h2; exact same_eq.1 (by simpa using hc15)
        · exact hin_i j hj hk (by omega)
      · refine Le.al ?_
        simp only [List.forall_mem_cons]
        exact ⟨rfl, rfl, cnt (by omega), by simp⟩
    ·
     refine WP.exit ?_
     refine hK8 _ ?_
     refine WP.seq fun K17 hK17 => ?_
     refine wr ?_
     refine ua ?_
     refine u_nil ?_
     refine WP.block ?_
     refine WP.loopL (ι := Nat) (fun j => ⟨al [(2, .loc nk 0), (3, .loc (nk + 1) 0), (6, .d (.int .i64 j))], o3, ((nk + 1) + 1)⟩) (fun j => j ≤ ns.length ∧ ∀ (a : Nat) (hj : a < ns.length) (hk : a < ms.length), a < j → ns[a] = ms[a]) (fun j => ns.length - j) (fun j hA => ?_) 0 ?_ ?_
     ·
      obtain ⟨hle_j, hin_j⟩ := hA
      refine WP.seq fun K19 hK19 => ?_
      refine wr ?_
      refine um ?_
      refine uf th27 th22 hb2_3 ?_
      refine ul th22 hb2_3 ?_
      refine un th22 ?_
      refine ub ?_
      refine u_nil ?_
      refine wc (fun hc21 => ?_) (fun hc21 => ?_) <;> try simp only [Q0, Q1, Q2, Q3, Q4, Q5, Q6, Q7, Q8, ge_iff_le, gt_iff_lt] at hc21
      ·
       refine WP.skip ?_
       refine hK19 _ ?_
       refine WP.seq fun K22 hK22 => ?_
       refine WP.block ?_
       refine wd ?_
       refine df th27 th22 hb2_3 ?_
       refine dl th22 hb2_3 ?_
       refine dm ?_
       first | refine d_step (o_ia_map rfl rfl th22 rfl th9 rfl (by omega) ⟨rfl, rfl, rfl⟩) ?_ | refine d_step (o_ia_vs rfl rfl th22 rfl th9 rfl (by omega) ⟨rfl, rfl, rfl⟩) ?_
       refine dL th9 ?_
       refine df th27 th22 hb3 ?_
       refine dl th22 hb3 ?_
       refine dm ?_
       first | refine d_step (o_ia_map rfl rfl th22 rfl th9 rfl (by omega) ⟨rfl, rfl, rfl⟩) ?_ | refine d_step (o_ia_vs rfl rfl th22 rfl th9 rfl (by omega) ⟨rfl, rfl, rfl⟩) ?_
       refine dL th9 ?_
       refine ds ?_
       refine d_nil ?_
       refine wc (fun hc24 => ?_) (fun hc24 => ?_) <;> try simp only [Q0, Q1, Q2, Q3, Q4, Q5, Q6, Q7, Q8, ge_iff_le, gt_iff_lt] at hc24
       ·
        refine wr ?_
        refine ua ?_
        refine u_nil ?_
        refine WP.ret ?_
        refine ret_ok rfl ?_ (by omega) (fun t ht => (hk3 t (by omega)).trans ((hk2 t (by omega))))
        -- ret 3
        clear hK4 hK8 hK10 hK17 hK19 hK22
        refine congrArg D.bool (same_ne ?_).symm
        intro e
        simp only [Val.mk.injEq] at e
        obtain ⟨rfl, rfl, rfl, rfl, rfl⟩ := e
        simp at hc24
       ·
        refine WP.skip ?_
        refine hK22 _ ?_
        refine WP.reg tabOk rfl ?_
        refine um ?_
        refine ub ?_
        refine ua ?_
        refine u_nil ?_
        -- back
        refine ⟨j + 1, ⟨by omega, ?_⟩, by omega, ?_⟩
        · intro a ha hk h1
          by_cases h2 : a = j
          · subst h2; simpa using hc24
          · exact hin_j a ha hk (by omega)
        · refine Le.al ?_
          simp only [List.forall_mem_cons]
          exact ⟨rfl, rfl, cnt (by omega), by simp⟩
      ·
       refine WP.exit ?_
       refine hK17 _ ?_
       refine wr ?_
       refine ua ?_
       refine u_nil ?_
       refine WP.ret ?_
       refine ret_ok rfl ?_ (by omega) (fun t ht => (hk3 t (by omega)).trans ((hk2 t (by omega))))
       -- ret 4
       have e1 : xs = ys := List.ext_getElem (by omega) fun j h1 h2 => hin_i j h1 h2 (by omega)
       have e2 : ns = ms := List.ext_getElem (by omega) fun j h1 h2 => hin_j j h1 h2 (by omega)
       rw [q1, q2, q3, e1, e2, same_refl]
     ·
      simp
     ·
      refine Le.al ?_
      simp only [List.forall_mem_cons]
      exact ⟨rfl, rfl, rfl, by simp⟩
   ·
    simp
   ·
    refine Le.al ?_
    simp only [List.forall_mem_cons]
    exact ⟨rfl, rfl, rfl, by simp⟩
theorem s30 (v w : Val) : PSpec Tryz.prog 30 [.d (encV v), .d (encV w)] (.d (.bool (sameV v w))) := s30A _ v w (Nat.lt_succ_self _)

end Go.Proofs.YtpkcbdhjnnnkbaaGreat.Abs

set_option linter.unusedVariables false
set_option linter.unusedSimpArgs false
set_option maxRecDepth 10000
namespace Go.Proofs.YtpkcbdhjnnnkbaaGreat.Abs
open Go
theorem o_ia_mapG {P : Program} {Θ : Tab} {K : SV → (Nat → Option AO) → Nat → Prop} {sl : Nat → SV} {o : Nat → Option AO} {nk : Nat} {x ix : Operand} {t e : Nat} {α : Type} {i j : TI} {z : Nat} {xs : List α} {g : α → D} {k : IntKind} {m : Nat} (d0 : α) (hx : ev sl x = .d (.sl z (xs.map g))) (hy : ev sl ix = .d (.int k (m : Int))) (hi : Θ t = some i) (hk : i.k = .slice e) (hj : Θ e = some j) (hz : z = j.sz) (hlt : m < xs.length) (h : K (.el (g (xs.getD m d0))) o nk) : vOp P Θ (.indexAddr t x ix) ⟨sl, o, nk⟩ K := by
  have hg : xs.getD m d0 = xs[m]'hlt := by simp [hlt]
  rw [hg] at h
  exact o_ia_map hx hy hi hk hj hz hlt h
theorem begins_yes {a b : List Str} (hl : a.length ≤ b.length) (h : ∀ (j : Nat) (hj : j < a.length) (hk : j < b.length), a[j] = b[j]) : beginsV a b = true := by
  unfold beginsV
  rw [decide_eq_true_eq, List.prefix_iff_eq_take]
  refine List.ext_getElem (by simp; omega) fun j h1 h2 => ?_
  rw [List.getElem_take]
  exact h j h1 (by omega)
theorem begins_no {a b : List Str} {i : Nat} (h : i < a.length) (hb : b.length ≤ i ∨ ∃ hk : i < b.length, a[i] ≠ b[i]) : beginsV a b = false := by
  unfold beginsV
  rw [decide_eq_false_iff_not]
  intro hp
  have hl := hp.length_le
  rcases hb with hb | ⟨hk, hb⟩
  · omega
  · exact hb (hp.getElem h)

theorem fn63 : FnOk Tryz.prog 63 27 [4] (bodyOf Tryz.f63) := ⟨Tryz.f63, Tryz.func63, by kernel_rfl, by decide, by kernel_rfl, by kernel_rfl⟩
theorem s63 (a b : List Str) : PSpec Tryz.prog 63 [.d (.sl 1 (a.map .str)), .d (.sl 1 (b.map .str))] (.d (.bool (beginsV a b))) := by
 refine PSpec.bd fun hbd => ?_
 have hx : a.length ≤ 9223372036854775807 := by simpa using hbd.1.1
 refine PSpec.of fn63 (by simp) fun o nk => ?_
 refine wr ?_
 refine ua ?_
 refine u_nil ?_
 refine WP.seq fun K2 hK2 => ?_
 refine wr ?_
 refine ua ?_
 refine u_nil ?_
 refine WP.block ?_
 refine WP.loopL (ι := Nat) (fun i => ⟨al [(0, .d (.sl 1 (a.map .str))), (1, .d (.sl 1 (b.map .str))), (5, .d (.int .i64 i))], o, nk⟩) (fun i => i ≤ a.length ∧ i ≤ b.length ∧ ∀ (j : Nat) (hj : j < a.length) (hk : j < b.length), j < i → a[j] = b[j]) (fun i => a.length - i) (fun i hA => ?_) 0 ?_ ?_
 ·
  obtain ⟨hle_i, hin_i⟩ := hA
  refine WP.seq fun K4 hK4 => ?_
  refine wr ?_
  refine um ?_
  refine um ?_
  refine un th22 ?_
  refine ub ?_
  refine u_nil ?_
  refine wc (fun hc6 => ?_) (fun hc6 => ?_) <;> try simp only [Q0, Q1, Q2, Q3, Q4, Q5, Q6, Q7, Q8, ge_iff_le, gt_iff_lt] at hc6
  ·
   refine WP.skip ?_
   refine hK4 _ ?_
   refine WP.seq fun K7 hK7 => ?_
   refine WP.block ?_
   refine wd ?_
   refine dm ?_
   refine dm ?_
   refine dn th22 ?_
   refine db ?_
   refine dm ?_
   apply d_guard
   · exact GC.f _
   · intro hg
     exact pm
   apply d_guard
   · exact GC.f _
   · intro hg
     exact pm
   apply d_guard
   · exact GC.f _
   · intro hg; try simp only [hg, ct]; try simp only [hg, ct, Bt]
     have hg2 := hg; try simp only [Q0, Q1, Q2, Q3, Q4, Q5, Q6, Q9, Qa, Qb, Qc, Qd] at hg2
     first | refine o_ia_map rfl rfl th22 rfl th9 rfl (by omega) ⟨rfl, rfl, rfl⟩ | refine o_ia_vs rfl rfl th22 rfl th9 rfl (by omega) ⟨rfl, rfl, rfl⟩
   apply d_guard
   · exact GC.f _
   · intro hg; try simp only [hg, ct]; try simp only [hg, ct, Bt]
     exact pL th9
   apply d_guard
   · exact GC.f _
   · intro hg
     exact pm
   apply d_guard
   · exact GC.f _
   · intro hg
     exact pm
   apply d_guard
   · exact GC.f _
   · intro hg; try simp only [hg, ct]; try simp only [hg, ct, Bt]
     have hg2 := hg; try simp only [Q0, Q1, Q2, Q3, Q4, Q5, Q6, Q9, Qa, Qb, Qc, Qd] at hg2
     refine o_ia_mapG (xs := b) ([] : Str) rfl rfl th22 rfl th9 rfl (by omega) ⟨rfl, rfl, rfl⟩
   apply d_guard
   · exact GC.f _
   · intro hg; try simp only [hg, ct]; try simp only [hg, ct, Bt]
     exact pL th9
   apply d_guard
   · exact GC.f _
   · intro hg; try simp only [hg, ct]; try simp only [hg, ct, Bt]
     exact ps
   refine dO ?_
   refine d_nil ?_
   refine wc (fun hc9 => ?_) (fun hc9 => ?_) <;> try simp only [Q0, Q1, Q2, Q3, Q4, Q5, Q6, Q7, Q8, ge_iff_le, gt_iff_lt] at hc9
   ·
    refine wr ?_
    refine ua ?_
    refine u_nil ?_
    refine WP.ret ?_
    refine ret_ok rfl ?_ (by omega) (fun _ _ => rfl)
    -- ret 1
    rw [begins_no (by omega) ?_]
    by_cases hb : b.length ≤ i
    · exact .inl hb
    · have hk : i < b.length := by omega
      exact .inr ⟨hk, by simpa [hb, hk] using hc9⟩
   ·
    refine WP.skip ?_
    refine hK7 _ ?_
    refine WP.reg tabOk rfl ?_
    refine um ?_
    refine ub ?_
    refine ua ?_
    refine u_nil ?_
    -- back
    refine ⟨i + 1, ⟨by omega, ?_⟩, by omega, ?_⟩
    · have hq := Bool.or_eq_false_iff.1 hc9
      have hq1 : ¬ b.length ≤ i := by simpa using hq.1
      refine ⟨by omega, fun j hj hk h1 => ?_⟩
      by_cases h2 : j = i
      · subst h2; simpa [hk] using hq.2
      · exact hin_i.2 j hj hk (by omega)
    · refine Le.al ?_
      simp only [List.forall_mem_cons]
      exact ⟨rfl, rfl, cnt (by omega), by simp⟩
  ·
   refine WP.exit ?_
   refine hK2 _ ?_
   refine wr ?_
   refine ua ?_
   refine u_nil ?_
   refine WP.ret ?_
   refine ret_ok rfl ?_ (by omega) (fun _ _ => rfl)
   -- ret 2
   rw [begins_yes (by omega) fun j hj hk => hin_i.2 j hj hk (by omega)]
 ·
  simp
 ·
  refine Le.al ?_
  simp only [List.forall_mem_cons]
  exact ⟨rfl, rfl, rfl, by simp⟩

theorem fn91 : FnOk Tryz.prog 91 15 [4] (bodyOf Tryz.f91) := ⟨Tryz.f91, Tryz.func91, by kernel_rfl, by decide, by kernel_rfl, by kernel_rfl⟩
theorem s91 (a b : List Str) : PSpec Tryz.prog 91 [.d (.sl 1 (a.map .str)), .d (.sl 1 (b.map .str))] (.d (.bool (decide (a = b)))) := by
 refine PSpec.of fn91 (by simp) fun o nk => ?_
 refine wr ?_
 refine ua ?_
 refine u_nil ?_
 refine wr ?_
 refine um ?_
 refine un th22 ?_
 refine um ?_
 refine un th22 ?_
 refine ub ?_
 refine um ?_
 apply gT
 · rfl
 · intro hg
   exact pm
 apply gT
 · rfl
 · intro hg
   exact pm
 apply gT
 · rfl
 · intro hg; try simp only [hg, ct]; try simp only [hg, ct, Bt]
   refine o_pcall (s63 _ _) rfl ⟨rfl, rfl, rfl⟩
 refine uA ?_
 refine ua ?_
 refine u_nil ?_
 refine WP.ret ?_
 refine ret_ok rfl ?_ (by omega) (fun _ _ => rfl)
 -- ret 1
 refine congrArg D.bool ?_
 rw [Bool.eq_iff_iff]
 simp only [Bool.and_eq_true, beq_iff_eq, List.length_map, decide_eq_true_eq, beginsV]
 constructor
 · rintro ⟨h1, h2⟩; exact h2.eq_of_length (by omega)
 · rintro rfl; exact ⟨rfl, List.prefix_refl _⟩

end Go.Proofs.YtpkcbdhjnnnkbaaGreat.Abs

set_option linter.unusedVariables false
set_option linter.unusedSimpArgs false
set_option maxRecDepth 10000
namespace Go.Proofs.YtpkcbdhjnnnkbaaGreat.Abs
open Go
end Go.Proofs.YtpkcbdhjnnnkbaaGreat.Abs

set_option linter.unusedVariables false
set_option linter.unusedSimpArgs false
set_option maxRecDepth 10000
namespace Go.Proofs.YtpkcbdhjnnnkbaaGreat.Abs
open Go
/-- A change that may be. -/
def mayD (d : Dlt) : Bool := pathV d.path && (if d.kind = 1 then decide (checkV d.value = 0) && decide (d.n = 0) else if d.kind = 2 then noneV d.value && decide (d.n = 0) else if d.kind = 3 then noneV d.value && decide (0 ≤ d.n) && decide (d.n ≤ 999) else false)
def okD (d : Dlt) : Prop := rngV d.value ∧ szV d.value ≤ 1099511627776
theorem none_le (v : Val) : SV.les [.d (.agg (valCells v)), .d (.agg [.int .i64 0, .int .i64 0, .str [], .nil, .nil])] [.d (encV v), .d (encV (.mk 0 0 [] [] []))] := by
  refine ⟨?_, ?_, trivial⟩
  · show D.le (.agg (valCells v)) (encV v)
    rw [encV_eq]; exact D.le_refl _
  · show D.le (.agg [.int .i64 0, .int .i64 0, .str [], .nil, .nil]) (encV (.mk 0 0 [] [] []))
    simp [D.le, D.les, encV, encVs]
theorem s30n (v : Val) : PSpec Tryz.prog 30 [.d (.agg (valCells v)), .d (.agg [.int .i64 0, .int .i64 0, .str [], .nil, .nil])] (.d (.bool (noneV v))) := by
  have := PSpec.le (s30 v (.mk 0 0 [] [] [])) (none_le v)
  rwa [none_same] at this

theorem fn73 : FnOk Tryz.prog 73 45 [2] (bodyOf Tryz.f73) := ⟨Tryz.f73, Tryz.func73, by kernel_rfl, by decide, by kernel_rfl, by kernel_rfl⟩
theorem s73 (d : Dlt) (hd : okD d) : PSpec Tryz.prog 73 [.d (encD d)] (.d (.bool (mayD d))) := by
 refine PSpec.of fn73 (by simp) fun o nk => ?_
 refine wr ?_
 refine u_step (g_box rfl fun o2 hb2 hk2 => ?_)
 refine ua ?_
 refine u_nil ?_
 refine WP.seq fun K3 hK3 => ?_
 refine wr ?_
 refine uf th83 th22 hb2 ?_
 refine ul th22 hb2 ?_
 refine u_step (o_pcall (s56 _) rfl ?_)
 refine uN ?_
 refine u_nil ?_
 refine wc (fun hc5 => ?_) (fun hc5 => ?_) <;> try simp only [Q0, Q1, Q2, Q3, Q4, Q5, Q6, Q7, Q8, ge_iff_le, gt_iff_lt] at hc5
 ·
  refine wr ?_
  refine ua ?_
  refine u_nil ?_
  refine WP.ret ?_
  refine ret_ok rfl ?_ (by omega) (fun t ht => (hk2 t (by omega)))
  -- ret 1
  clear hK3
  refine congrArg D.bool ?_
  simp only [mayD]
  grind
 ·
  refine WP.skip ?_
  refine hK3 _ ?_
  refine WP.seq fun K7 hK7 => ?_
  refine wr ?_
  refine uf th83 th3 hb2 ?_
  refine ul th3 hb2 ?_
  refine u_nil ?_
  refine WP.block ?_
  refine wr ?_
  refine ub ?_
  refine ua ?_
  refine u_nil ?_
  refine wc (fun hc10 => ?_) (fun hc10 => ?_) <;> try simp only [Q0, Q1, Q2, Q3, Q4, Q5, Q6, Q7, Q8, ge_iff_le, gt_iff_lt] at hc10
  ·
   refine wr ?_
   refine uf th83 th27 hb2 ?_
   refine ug th27 hb2 ?_
   refine u_step (o_pcall (pv (v := d.value) (s123 d.value hd.1 hd.2)) rfl ?_)
   refine ub ?_
   refine um ?_
   apply gT
   · rfl
   · intro hg
     exact pf th83 th3 hb2
   apply gT
   · rfl
   · intro hg; try simp only [hg, ct]; try simp only [hg, ct, Bt]
     exact pl th3 hb2
   apply gT
   · rfl
   · intro hg; try simp only [hg, ct]; try simp only [hg, ct, Bt]
     exact pb
   refine uA ?_
   refine ua ?_
   refine u_nil ?_
   refine WP.ret ?_
   refine ret_ok rfl ?_ (by omega) (fun t ht => (hk2 t (by omega)))
   -- ret 2
   clear hK3 hK7
   refine congrArg D.bool ?_
   simp only [mayD]
   grind
  ·
   refine wr ?_
   refine ub ?_
   refine ua ?_
   refine u_nil ?_
   refine wc (fun hc13 => ?_) (fun hc13 => ?_) <;> try simp only [Q0, Q1, Q2, Q3, Q4, Q5, Q6, Q7, Q8, ge_iff_le, gt_iff_lt] at hc13
   ·
    refine wr ?_
    refine uf th83 th27 hb2 ?_
    refine ug th27 hb2 ?_
    refine u_step (o_pcall (pv (v := d.value) (s124 d.value hd.2)) rfl ?_)
    refine um ?_
    apply gT
    · rfl
    · intro hg
      exact pf th83 th3 hb2
    apply gT
    · rfl
    · intro hg; try simp only [hg, ct]; try simp only [hg, ct, Bt]
      exact pl th3 hb2
    apply gT
    · rfl
    · intro hg; try simp only [hg, ct]; try simp only [hg, ct, Bt]
      exact pb
    refine uA ?_
    refine ua ?_
    refine u_nil ?_
    refine WP.ret ?_
    refine ret_ok rfl ?_ (by omega) (fun t ht => (hk2 t (by omega)))
    -- ret 3
    clear hK3 hK7
    refine congrArg D.bool ?_
    simp only [mayD]
    grind
   ·
    refine wr ?_
    refine ub ?_
    refine ua ?_
    refine u_nil ?_
    refine wc (fun hc16 => ?_) (fun hc16 => ?_) <;> try simp only [Q0, Q1, Q2, Q3, Q4, Q5, Q6, Q7, Q8, ge_iff_le, gt_iff_lt] at hc16
    ·
     refine wr ?_
     refine uf th83 th27 hb2 ?_
     refine ug th27 hb2 ?_
     refine u_step (o_pcall (pv (v := d.value) (s124 d.value hd.2)) rfl ?_)
     refine um ?_
     apply gT
     · rfl
     · intro hg
       exact pf th83 th3 hb2
     apply gT
     · rfl
     · intro hg; try simp only [hg, ct]; try simp only [hg, ct, Bt]
       exact pl th3 hb2
     apply gT
     · rfl
     · intro hg; try simp only [hg, ct]; try simp only [hg, ct, Bt]
       exact pb
     refine uA ?_
     refine um ?_
     apply gT
     · rfl
     · intro hg
       exact pf th83 th3 hb2
     apply gT
     · rfl
     · intro hg; try simp only [hg, ct]; try simp only [hg, ct, Bt]
       exact pl th3 hb2
     apply gT
     · rfl
     · intro hg; try simp only [hg, ct]; try simp only [hg, ct, Bt]
       exact pb
     refine uA ?_
     refine ua ?_
     refine u_nil ?_
     refine WP.ret ?_
     refine ret_ok rfl ?_ (by omega) (fun t ht => (hk2 t (by omega)))
     -- ret 4
     clear hK3 hK7
     refine congrArg D.bool ?_
     simp only [mayD]
     grind
    ·
     refine WP.skip ?_
     refine hK7 _ ?_
     refine wr ?_
     refine ua ?_
     refine u_nil ?_
     refine WP.ret ?_
     refine ret_ok rfl ?_ (by omega) (fun t ht => (hk2 t (by omega)))
     -- ret 5
     clear hK3 hK7
     refine congrArg D.bool ?_
     simp only [mayD]
     grind

theorem fn79 : FnOk Tryz.prog 79 46 [2] (bodyOf Tryz.f79) := ⟨Tryz.f79, Tryz.func79, by kernel_rfl, by decide, by kernel_rfl, by kernel_rfl⟩
theorem s79 (d : Dlt) (hd : okD d) : PSpec Tryz.prog 79 [.d (encD d)] (.d (.bool (mayD d))) := by
 refine PSpec.of fn79 (by simp) fun o nk => ?_
 refine wr ?_
 refine u_step (g_box rfl fun o2 hb2 hk2 => ?_)
 refine ua ?_
 refine u_nil ?_
 refine WP.seq fun K3 hK3 => ?_
 refine wr ?_
 refine uf th83 th22 hb2 ?_
 refine ul th22 hb2 ?_
 refine u_step (o_pcall (s58 _) rfl ?_)
 refine uN ?_
 refine u_nil ?_
 refine wc (fun hc5 => ?_) (fun hc5 => ?_) <;> try simp only [Q0, Q1, Q2, Q3, Q4, Q5, Q6, Q7, Q8, ge_iff_le, gt_iff_lt] at hc5
 ·
  refine wr ?_
  refine ua ?_
  refine u_nil ?_
  refine WP.ret ?_
  refine ret_ok rfl ?_ (by omega) (fun t ht => (hk2 t (by omega)))
  -- ret 1
  clear hK3
  refine congrArg D.bool ?_
  simp only [mayD]
  grind
 ·
  refine WP.skip ?_
  refine hK3 _ ?_
  refine wr ?_
  refine uf th83 th27 hb2 ?_
  refine ug th27 hb2 ?_
  refine u_step (o_bu rfl th27 rfl rfl ?_)
  refine u_step (o_pcall (s30n d.value) rfl ?_)
  refine ua ?_
  refine u_nil ?_
  refine WP.seq fun K8 hK8 => ?_
  refine wr ?_
  refine uf th83 th3 hb2 ?_
  refine ul th3 hb2 ?_
  refine u_nil ?_
  refine WP.block ?_
  refine wr ?_
  refine ub ?_
  refine ua ?_
  refine u_nil ?_
  refine wc (fun hc11 => ?_) (fun hc11 => ?_) <;> try simp only [Q0, Q1, Q2, Q3, Q4, Q5, Q6, Q7, Q8, ge_iff_le, gt_iff_lt] at hc11
  ·
   refine wr ?_
   refine uf th83 th27 hb2 ?_
   refine ug th27 hb2 ?_
   refine u_step (o_pcall (pv (v := d.value) (s66 d.value hd.1 hd.2)) rfl ?_)
   refine ub ?_
   refine um ?_
   apply gT
   · rfl
   · intro hg
     exact pf th83 th3 hb2
   apply gT
   · rfl
   · intro hg; try simp only [hg, ct]; try simp only [hg, ct, Bt]
     exact pl th3 hb2
   apply gT
   · rfl
   · intro hg; try simp only [hg, ct]; try simp only [hg, ct, Bt]
     exact pb
   refine uA ?_
   refine ua ?_
   refine u_nil ?_
   refine WP.ret ?_
   refine ret_ok rfl ?_ (by omega) (fun t ht => (hk2 t (by omega)))
   -- ret 2
   clear hK3 hK8
   refine congrArg D.bool ?_
   simp only [mayD]
   grind
  ·
   refine wr ?_
   refine ub ?_
   refine ua ?_
   refine u_nil ?_
   refine wc (fun hc14 => ?_) (fun hc14 => ?_) <;> try simp only [Q0, Q1, Q2, Q3, Q4, Q5, Q6, Q7, Q8, ge_iff_le, gt_iff_lt] at hc14
   ·
    refine wr ?_
    refine um ?_
    refine um ?_
    apply gT
    · rfl
    · intro hg
      exact pf th83 th3 hb2
    apply gT
    · rfl
    · intro hg; try simp only [hg, ct]; try simp only [hg, ct, Bt]
      exact pl th3 hb2
    apply gT
    · rfl
    · intro hg; try simp only [hg, ct]; try simp only [hg, ct, Bt]
      exact pb
    refine uA ?_
    refine ua ?_
    refine u_nil ?_
    refine WP.ret ?_
    refine ret_ok rfl ?_ (by omega) (fun t ht => (hk2 t (by omega)))
    -- ret 3
    clear hK3 hK8
    refine congrArg D.bool ?_
    simp only [mayD]
    grind
   ·
    refine wr ?_
    refine ub ?_
    refine ua ?_
    refine u_nil ?_
    refine wc (fun hc17 => ?_) (fun hc17 => ?_) <;> try simp only [Q0, Q1, Q2, Q3, Q4, Q5, Q6, Q7, Q8, ge_iff_le, gt_iff_lt] at hc17
    ·
     refine wr ?_
     refine um ?_
     refine um ?_
     apply gT
     · rfl
     · intro hg
       exact pf th83 th3 hb2
     apply gT
     · rfl
     · intro hg; try simp only [hg, ct]; try simp only [hg, ct, Bt]
       exact pl th3 hb2
     apply gT
     · rfl
     · intro hg; try simp only [hg, ct]; try simp only [hg, ct, Bt]
       exact pb
     refine uA ?_
     refine um ?_
     apply gT
     · rfl
     · intro hg
       exact pf th83 th3 hb2
     apply gT
     · rfl
     · intro hg; try simp only [hg, ct]; try simp only [hg, ct, Bt]
       exact pl th3 hb2
     apply gT
     · rfl
     · intro hg; try simp only [hg, ct]; try simp only [hg, ct, Bt]
       exact pb
     refine uA ?_
     refine ua ?_
     refine u_nil ?_
     refine WP.ret ?_
     refine ret_ok rfl ?_ (by omega) (fun t ht => (hk2 t (by omega)))
     -- ret 4
     clear hK3 hK8
     refine congrArg D.bool ?_
     simp only [mayD]
     grind
    ·
     refine WP.skip ?_
     refine hK8 _ ?_
     refine wr ?_
     refine ua ?_
     refine u_nil ?_
     refine WP.ret ?_
     refine ret_ok rfl ?_ (by omega) (fun t ht => (hk2 t (by omega)))
     -- ret 5
     clear hK3 hK8
     refine congrArg D.bool ?_
     simp only [mayD]
     grind

end Go.Proofs.YtpkcbdhjnnnkbaaGreat.Abs

set_option linter.unusedVariables false
set_option linter.unusedSimpArgs false
set_option maxRecDepth 10000
namespace Go.Proofs.YtpkcbdhjnnnkbaaGreat.Abs
open Go

end Go.Proofs.YtpkcbdhjnnnkbaaGreat.Abs

set_option linter.unusedVariables false
set_option linter.unusedSimpArgs false
set_option maxRecDepth 10000
namespace Go.Proofs.YtpkcbdhjnnnkbaaGreat.Abs
open Go
end Go.Proofs.YtpkcbdhjnnnkbaaGreat.Abs

set_option linter.unusedVariables false
set_option linter.unusedSimpArgs false
set_option maxRecDepth 10000
namespace Go.Proofs.YtpkcbdhjnnnkbaaGreat.Abs
open Go
end Go.Proofs.YtpkcbdhjnnnkbaaGreat.Abs

set_option linter.unusedVariables false
set_option linter.unusedSimpArgs false
set_option maxRecDepth 10000
namespace Go.Proofs.YtpkcbdhjnnnkbaaGreat.Abs
open Go
end Go.Proofs.YtpkcbdhjnnnkbaaGreat.Abs

set_option linter.unusedVariables false
set_option linter.unusedSimpArgs false
set_option maxRecDepth 10000
namespace Go.Proofs.YtpkcbdhjnnnkbaaGreat.Abs
open Go
def cmpI (a b : Int) : Int := if a < b then -1 else if b < a then 1 else 0
def orI : List Int → Int
  | [] => 0
  | x :: r => if x = 0 then orI r else x
end Go.Proofs.YtpkcbdhjnnnkbaaGreat.Abs

set_option linter.unusedVariables false
set_option linter.unusedSimpArgs false
set_option maxRecDepth 10000
namespace Go.Proofs.YtpkcbdhjnnnkbaaGreat.Abs
open Go
end Go.Proofs.YtpkcbdhjnnnkbaaGreat.Abs

set_option linter.unusedVariables false
set_option linter.unusedSimpArgs false
set_option maxRecDepth 10000
namespace Go.Proofs.YtpkcbdhjnnnkbaaGreat.Abs
open Go
/-- Which parts an entry has, by its kind. -/
def fieldsV (k : Int) : Int := if k = 1 then 0 else if k = 7 then 3 else if k = 2 then 13 else if k = 4 then 5 else if k = 3 then 21 else if k = 5 ∨ k = 6 then 1 else -1

end Go.Proofs.YtpkcbdhjnnnkbaaGreat.Abs

set_option linter.unusedVariables false
set_option linter.unusedSimpArgs false
set_option maxRecDepth 10000
namespace Go.Proofs.YtpkcbdhjnnnkbaaGreat.Abs
open Go
end Go.Proofs.YtpkcbdhjnnnkbaaGreat.Abs

set_option linter.unusedVariables false
set_option linter.unusedSimpArgs false
set_option maxRecDepth 10000
namespace Go.Proofs.YtpkcbdhjnnnkbaaGreat.Abs
open Go
end Go.Proofs.YtpkcbdhjnnnkbaaGreat.Abs

set_option linter.unusedVariables false
set_option linter.unusedSimpArgs false
set_option maxRecDepth 10000
namespace Go.Proofs.YtpkcbdhjnnnkbaaGreat.Abs
open Go
end Go.Proofs.YtpkcbdhjnnnkbaaGreat.Abs

set_option linter.unusedVariables false
set_option linter.unusedSimpArgs false
set_option maxRecDepth 10000
namespace Go.Proofs.YtpkcbdhjnnnkbaaGreat.Abs
open Go
end Go.Proofs.YtpkcbdhjnnnkbaaGreat.Abs

set_option linter.unusedVariables false
set_option linter.unusedSimpArgs false
set_option maxRecDepth 10000
namespace Go.Proofs.YtpkcbdhjnnnkbaaGreat.Abs
open Go
theorem cmpI_zero {a b : Int} : cmpI a b = 0 ↔ a = b := by unfold cmpI; split <;> (try split) <;> omega
theorem orI_zero {x : Int} {r : List Int} : orI (x :: r) = 0 ↔ x = 0 ∧ orI r = 0 := by
  simp only [orI]; split <;> simp_all
theorem cmpB_zero : ∀ {s t : Str}, Go.Lib.compareBytes s t = 0 ↔ s = t
  | [], [] => by simp [Go.Lib.compareBytes]
  | [], _ :: _ => by simp [Go.Lib.compareBytes]
  | _ :: _, [] => by simp [Go.Lib.compareBytes]
  | a :: s, b :: t => by
    have ih := cmpB_zero (s := s) (t := t)
    simp only [Go.Lib.compareBytes, List.cons.injEq]
    by_cases h1 : a < b
    · have : a ≠ b := fun e => by subst e; exact UInt8.lt_irrefl _ h1
      simp [h1, this]
    · by_cases h2 : b < a
      · have : a ≠ b := fun e => by subst e; exact UInt8.lt_irrefl _ h2
        simp [h1, h2, this]
      · have : a = b := UInt8.le_antisymm (UInt8.not_lt.1 h2) (UInt8.not_lt.1 h1)
        simp [h1, h2, this, ih]
mutual
/-- The order of two values that may be. -/
def cmpV : Val → Val → Int
  | .mk k i t xs ns, w => orI [cmpI k w.kind, cmpI i w.int, Go.Lib.compareBytes t w.text, cmpsV xs (decide (k = 7)) w.items ns w.names]
def cmpsV : List Val → Bool → List Val → List Str → List Str → Int
  | [], _, ys, _, _ => cmpI 0 ys.length
  | x :: xs, doc, ys, ns, ms => match ys with
    | [] => 1
    | y :: ys => orI [if doc = true then Go.Lib.compareBytes (ns.headD []) (ms.headD []) else 0, cmpV x y, cmpsV xs doc ys ns.tail ms.tail]
end
mutual
theorem cmpV_refl : ∀ v, cmpV v v = 0
  | .mk k i t xs ns => by
    have h := cmpsV_refl xs (decide (k = 7)) ns
    rw [cmpV]
    simp only [Val.kind, Val.int, Val.text, Val.items, Val.names, orI_zero, h, cmpI_zero.2 rfl, cmpB_zero.2 rfl]
    simp [orI]
theorem cmpsV_refl : ∀ xs doc ns, cmpsV xs doc xs ns ns = 0
  | [], _, _ => by rw [cmpsV]; rfl
  | x :: xs, doc, ns => by
    have h1 := cmpV_refl x
    have h2 := cmpsV_refl xs doc ns.tail
    rw [cmpsV]
    simp only [orI_zero, h1, h2, cmpB_zero.2 rfl]
    simp [orI]
end
mutual
theorem cmpV_eq : ∀ (v w : Val), mayV v = true → mayV w = true → cmpV v w = 0 → v = w
  | .mk k i t xs ns, .mk k' i' t' ys ms, hv, hw, h => by
    rw [cmpV] at h
    simp only [Val.kind, Val.int, Val.text, Val.items, Val.names, orI_zero, cmpI_zero, cmpB_zero] at h
    obtain ⟨rfl, rfl, rfl, h4, _⟩ := h
    have hm1 : maysV xs = true := by rw [mayV] at hv; simp at hv; exact hv.1.1
    have hm2 : maysV ys = true := by rw [mayV] at hw; simp at hw; exact hw.1.1
    obtain ⟨rfl, h6⟩ := cmpsV_eq xs ys hm1 hm2 _ _ _ h4
    have hn : ns = ms := by
      by_cases hk : k = 7
      · subst hk
        exact h6 (by simp) (may7 hv) (may7 hw)
      · rw [mayV] at hv hw
        simp only [Bool.and_eq_true, kindOk] at hv hw
        have h1 := hv.2
        have h2 := hw.2
        have : ns.length = 0 ∧ ms.length = 0 := by
          constructor
          · grind
          · grind
        rw [List.eq_nil_of_length_eq_zero this.1, List.eq_nil_of_length_eq_zero this.2]
    rw [hn]
theorem cmpsV_eq : ∀ (xs ys : List Val), maysV xs = true → maysV ys = true → ∀ (doc : Bool) (ns ms : List Str), cmpsV xs doc ys ns ms = 0 → xs = ys ∧ (doc = true → ns.length = xs.length → ms.length = ys.length → ns = ms)
  | [], ys, _, _, doc, ns, ms, h => by
    rw [cmpsV, cmpI_zero] at h
    have : ys = [] := List.eq_nil_of_length_eq_zero (by omega)
    subst this
    exact ⟨rfl, fun _ h1 h2 => by rw [List.eq_nil_of_length_eq_zero h1, List.eq_nil_of_length_eq_zero h2]⟩
  | x :: xs, [], _, _, doc, ns, ms, h => by rw [cmpsV] at h; cases h
  | x :: xs, y :: ys, hx, hy, doc, ns, ms, h => by
    rw [cmpsV] at h
    simp only [orI_zero] at h
    obtain ⟨h1, h2, h3, _⟩ := h
    simp only [maysV, Bool.and_eq_true] at hx hy
    have e1 := cmpV_eq x y hx.1 hy.1 h2
    obtain ⟨e2, e3⟩ := cmpsV_eq xs ys hx.2 hy.2 doc ns.tail ms.tail h3
    refine ⟨by rw [e1, e2], fun hd l1 l2 => ?_⟩
    rw [if_pos hd, cmpB_zero] at h1
    cases ns with
    | nil => simp at l1
    | cons n ns =>
      cases ms with
      | nil => simp at l2
      | cons m ms =>
        simp only [List.headD_cons] at h1
        have e4 : ns = ms := e3 hd (by simpa using l1) (by simpa using l2)
        rw [h1, e4]
end
end Go.Proofs.YtpkcbdhjnnnkbaaGreat.Abs

set_option linter.unusedVariables false
set_option linter.unusedSimpArgs false
set_option maxRecDepth 10000
namespace Go.Proofs.YtpkcbdhjnnnkbaaGreat.Abs
open Go
end Go.Proofs.YtpkcbdhjnnnkbaaGreat.Abs

set_option linter.unusedVariables false
set_option linter.unusedSimpArgs false
set_option maxRecDepth 10000
namespace Go.Proofs.YtpkcbdhjnnnkbaaGreat.Abs
open Go
/-- A part of a struct of the program's: what an entry is. -/
structure Etr where
  term : Int
  kind : Int
  coll : Str
  to : Str
  id : Val
  doc : Val
  deltas : List Dlt
  session : Int
  number : Int
structure Flt where
  coll : Str
  path : List Str
  kinds : Int
end Go.Proofs.YtpkcbdhjnnnkbaaGreat.Abs

set_option linter.unusedVariables false
set_option linter.unusedSimpArgs false
set_option maxRecDepth 10000
namespace Go.Proofs.YtpkcbdhjnnnkbaaGreat.Abs
open Go
end Go.Proofs.YtpkcbdhjnnnkbaaGreat.Abs

set_option linter.unusedVariables false
set_option linter.unusedSimpArgs false
set_option maxRecDepth 10000
namespace Go.Proofs.YtpkcbdhjnnnkbaaGreat.Abs
open Go
def s2 : Str := [36, 0]
end Go.Proofs.YtpkcbdhjnnnkbaaGreat.Abs

set_option linter.unusedVariables false
set_option linter.unusedSimpArgs false
set_option maxRecDepth 10000
namespace Go.Proofs.YtpkcbdhjnnnkbaaGreat.Abs
open Go
theorem o_nc {P : Program} {Θ : Tab} {K : SV → (Nat → Option AO) → Nat → Prop} {sl : Nat → SV} {o : Nat → Option AO} {nk : Nat} {x : Operand} {q g : Nat} {cs : List SV} (hx : ev sl x = .loc q g) (ho : o q = some (.box cs)) (h : K (.loc q g) o nk) : vOp P Θ (.nilCheck x) ⟨sl, o, nk⟩ K := by
  refine Or.inl ⟨?_, ?_⟩
  · show ncOp o (ev sl x)
    rw [hx]; exact ⟨cs, ho⟩
  · show K (ev sl x) o nk
    rw [hx]; exact h
end Go.Proofs.YtpkcbdhjnnnkbaaGreat.Abs

set_option linter.unusedVariables false
set_option linter.unusedSimpArgs false
namespace Go.Proofs.YtpkcbdhjnnnkbaaGreat.Abs
open Go
section
variable {P : Program} {Θ : Tab} {K : SV → (Nat → Option AO) → Nat → Prop} {sl : Nat → SV} {o : Nat → Option AO} {nk : Nat} {x y ix : Operand} {t e f : Nat}
end
section
variable {P : Program} {Θ : Tab} {ops : Array Oper} {K : St → Prop} {r : List Oper} {sl : Nat → SV} {d ty j lo m nk nk' : Nat} {o o' : Nat → Option AO} {op : Op} {pos : String} {af : Array Edge} {want c : Bool} {v : SV} {L : List Ob} {ks : List Kd}
end
end Go.Proofs.YtpkcbdhjnnnkbaaGreat.Abs

/- A run of the operations that is computed: tries, one operation. -/
set_option linter.unusedVariables false
set_option linter.unusedSimpArgs false
namespace Go.Proofs.YtpkcbdhjnnnkbaaGreat.Abs
open Go

inductive TM (α : Type) where
  | e
  | n (v : Option α) (l r : TM α)
namespace TM
variable {α : Type}
def get : TM α → Nat → Option α
  | .e, _ => none
  | .n v _ _, 0 => v
  | .n _ l r, k + 1 => bif Nat.beq (k % 2) 0 then get l (k / 2) else get r (k / 2)
def seq {β : Type} (t : TM α) (k : TM α → β) : β := match t with
  | .e => k .e
  | .n v l r => k (.n v l r)
theorem seq_eq {β : Type} (t : TM α) (k : TM α → β) : seq t k = k t := by cases t <;> rfl
def put (v : Option α) : Nat → TM α → Nat → TM α
  | 0, t, _ => t
  | _ + 1, .e, 0 => .n v .e .e
  | _ + 1, .n _ l r, 0 => .n v l r
  | d + 1, .e, k + 1 => bif Nat.beq (k % 2) 0 then seq (put v d .e (k / 2)) fun l => .n none l .e else seq (put v d .e (k / 2)) fun r => .n none .e r
  | d + 1, .n u l r, k + 1 => bif Nat.beq (k % 2) 0 then seq (put v d l (k / 2)) fun l => .n u l r else seq (put v d r (k / 2)) fun r => .n u l r
theorem beq_cond {a b : Nat} {β : Type} (x y : β) : (bif Nat.beq a b then x else y) = if a = b then x else y := by
  by_cases h : a = b
  · subst h; simp
  · have : Nat.beq a b = false := by
      cases hb : Nat.beq a b with
      | false => rfl
      | true => exact absurd (Nat.eq_of_beq_eq_true hb) h
    rw [this, if_neg h]; rfl
theorem get_put (v : Option α) : ∀ (d : Nat) (t : TM α) (k i : Nat), k < d → (put v d t k).get i = if i = k then v else t.get i
  | 0, _, _, _, h => by omega
  | d + 1, .e, 0, i, _ => by
    cases i with
    | zero => simp [put, get]
    | succ i => simp only [put, get, beq_cond]; simp
  | d + 1, .n u l r, 0, i, _ => by
    cases i with
    | zero => simp [put, get]
    | succ i => simp only [put, get, beq_cond]; simp
  | d + 1, .e, k + 1, i, h => by
    have ih := get_put v d .e (k / 2)
    simp only [put, beq_cond, seq_eq]
    cases i with
    | zero => split <;> simp [get]
    | succ i =>
      split
      · simp only [get, beq_cond, ih _ (show k / 2 < d by omega)]
        split
        · by_cases hc : i / 2 = k / 2
          · rw [if_pos hc, if_pos (by omega)]
          · rw [if_neg hc, if_neg (by omega)]
        · rw [if_neg (by omega)]
      · simp only [get, beq_cond, ih _ (show k / 2 < d by omega)]
        split
        · rw [if_neg (by omega)]
        · by_cases hc : i / 2 = k / 2
          · rw [if_pos hc, if_pos (by omega)]
          · rw [if_neg hc, if_neg (by omega)]
  | d + 1, .n u l r, k + 1, i, h => by
    have ih1 := get_put v d l (k / 2)
    have ih2 := get_put v d r (k / 2)
    simp only [put, beq_cond, seq_eq]
    cases i with
    | zero => split <;> simp [get]
    | succ i =>
      split
      · simp only [get, beq_cond, ih1 _ (show k / 2 < d by omega)]
        split
        · by_cases hc : i / 2 = k / 2
          · rw [if_pos hc, if_pos (by omega)]
          · rw [if_neg hc, if_neg (by omega)]
        · rw [if_neg (by omega)]
      · simp only [get, beq_cond, ih2 _ (show k / 2 < d by omega)]
        split
        · rw [if_neg (by omega)]
        · by_cases hc : i / 2 = k / 2
          · rw [if_pos hc, if_pos (by omega)]
          · rw [if_neg hc, if_neg (by omega)]
def set (t : TM α) (k : Nat) (v : Option α) : TM α := put v (k + 1) t k
theorem get_set (t : TM α) (k : Nat) (v : Option α) : (t.set k v).get = upd t.get k v := by
  funext i
  unfold set upd
  exact get_put v _ t k i (by omega)
def mapT (f : α → α) : TM α → TM α
  | .e => .e
  | .n v l r => seq (mapT f l) fun l => seq (mapT f r) fun r => match v with
    | none => .n none l r
    | some x => .n (some (f x)) l r
theorem get_mapT (f : α → α) : ∀ (t : TM α) (i : Nat), (mapT f t).get i = (t.get i).map f
  | .e, i => rfl
  | .n v l r, i => by
    have h1 := get_mapT f l
    have h2 := get_mapT f r
    simp only [mapT, seq_eq]
    cases v <;> cases i with
    | zero => rfl
    | succ i => simp only [get, beq_cond]; split <;> simp [h1, h2]
def ofList (l : List α) : TM α := go l 0 .e
where go : List α → Nat → TM α → TM α
  | [], _, t => t
  | x :: l, i, t => go l (i + 1) (t.set i (some x))
theorem ofList_go : ∀ (l : List α) (k : Nat) (t : TM α) (i : Nat), (ofList.go l k t).get i = if k ≤ i ∧ i < k + l.length then l[i - k]? else t.get i
  | [], k, t, i => by simp only [ofList.go, List.length_nil]; rw [if_neg (by omega)]
  | x :: l, k, t, i => by
    simp only [ofList.go, ofList_go l, get_set, upd, List.length_cons]
    by_cases h1 : k + 1 ≤ i ∧ i < k + 1 + l.length
    · rw [if_pos h1, if_pos (by omega), show i - k = (i - (k + 1)) + 1 by omega, List.getElem?_cons_succ]
    · rw [if_neg h1]
      by_cases h2 : i = k
      · subst h2; rw [if_pos rfl, if_pos (by omega)]; simp
      · rw [if_neg h2, if_neg (by omega)]
theorem get_ofList (l : List α) (i : Nat) : (ofList l).get i = l[i]? := by
  unfold ofList
  rw [ofList_go]
  by_cases h : i < l.length
  · rw [if_pos (by omega)]; simp
  · rw [if_neg (by omega), List.getElem?_eq_none (by omega)]; rfl
end TM

/-- A state that is computed. -/
structure XS where
  sl : TM SV
  o : TM AO
  nk : Nat
def XS.st (s : XS) : St := ⟨fun u => (s.sl.get u).getD .any, s.o.get, s.nk⟩
abbrev XR := SV × TM AO × Nat

section
variable (Θ : Tab) (call : Nat → List SV → TM AO → Nat → Option XR)
def xbn (o : Nat → Option AO) (op : BinOp) (t : TypeId) (x y : SV) : Option D :=
  match x, y with
  | .d (.int k a), .d (.int k' b) => match op with
    | .shl => shBin .shl k a b
    | .shr => shBin .shr k a b
    | op => if k = k' then intBin op k a b else none
  | .d (.str a), .d (.str b) => strBin op a b
  | .d (.bool a), .d (.bool b) => match Θ t with
    | some i => match i.k with
      | .bool => match op with
        | .eql => some (.bool (a == b))
        | .neq => some (.bool (!(a == b)))
        | _ => none
      | _ => none
    | none => none
  | .d .nil, .d .nil => match Θ t with
    | some i => match i.k with
      | .slice _ => match op with
        | .eql => some (.bool true)
        | .neq => some (.bool false)
        | _ => none
      | _ => none
    | none => none
  | .d (.sl _ (_ :: _)), .d .nil => match Θ t with
    | some i => match i.k with
      | .slice _ => match op with
        | .eql => some (.bool false)
        | .neq => some (.bool true)
        | _ => none
      | _ => none
    | none => none
  | .d .nilp, .d .nilp => match Θ t with
    | some i => match i.k with
      | .ptr _ => match op with
        | .eql => some (.bool true)
        | .neq => some (.bool false)
        | _ => none
      | _ => none
    | none => none
  | .loc q _, .d .nilp => match Θ t with
    | some i => match i.k with
      | .ptr _ => match o q with
        | some (.box _) => match op with
          | .eql => some (.bool false)
          | .neq => some (.bool true)
          | _ => none
        | _ => none
      | _ => none
    | none => none
  | _, _ => none
theorem xbn_ok {o : Nat → Option AO} {op : BinOp} {t : TypeId} {x y : SV} {r : D} (h : xbn Θ o op t x y = some r) {K : SV → Prop} (hK : K (.d r)) : bnOp Θ o op t x y K := by
  unfold xbn at h
  split at h
  · split at h
    · exact ⟨r, h, hK⟩
    · exact ⟨r, h, hK⟩
    · split at h
      · rename_i he
        unfold bnOp
        simp only
        exact ⟨he, r, h, hK⟩
      · cases h
  · exact ⟨r, h, hK⟩
  all_goals (repeat' (split at h)) <;> first | (cases h; done) | (simp only [Option.some.injEq] at h; subst h; simp_all [bnOp])

def xld (o : Nat → Option AO) (t : TypeId) (x : SV) : Option SV :=
  match Θ t with
  | none => none
  | some i => match x with
    | .loc k f => match o k with
      | some (.box cs) => match i.k.agg with
        | true => match allD ((cs.drop f).take i.sz) with
          | some ds => if ds.length = i.sz ∧ ds.all D.leaf = true then some (.d (.agg ds)) else none
          | none => if ((cs.drop f).take i.sz).length = i.sz ∧ ((cs.drop f).take i.sz).all (oneC o) = true then some (.ag ((cs.drop f).take i.sz)) else none
        | false => cs[f]?
      | _ => none
    | .el x => if x.leaf = !i.k.agg ∧ x.width = i.sz then some (.d x) else none
    | _ => none
theorem xld_ok {o : Nat → Option AO} {t : TypeId} {x : SV} {r : SV} (h : xld Θ o t x = some r) {K : SV → Prop} (hK : K r) : ldOp Θ o t x K := by
  unfold xld at h
  split at h
  · cases h
  · rename_i i hi
    refine ⟨i, hi, ?_⟩
    split at h
    · split at h
      · rename_i cs hcs
        refine ⟨cs, hcs, ?_⟩
        split at h
        · rename_i ha
          rw [if_pos ha]
          split at h
          · rename_i ds hds
            split at h
            · rename_i hc
              simp only [Option.some.injEq] at h
              subst h
              exact .inl ⟨ds, hds, hc.1, hc.2, hK⟩
            · cases h
          · split at h
            · rename_i hc
              simp only [Option.some.injEq] at h
              subst h
              exact .inr ⟨hc.1, hc.2, hK⟩
            · cases h
        · rename_i ha
          rw [if_neg (by simp [ha])]
          exact ⟨r, h, hK⟩
      · cases h
    · split at h
      · rename_i hc
        simp only [Option.some.injEq] at h
        subst h
        exact ⟨hc.1, hc.2, hK⟩
      · cases h
    · cases h

def xst (o : TM AO) (t : TypeId) (x y : SV) : Option (TM AO) :=
  match Θ t with
  | none => none
  | some i => match y.cells o.get with
    | none => none
    | some ys => if ys.length = i.sz then match x with
      | .loc k f => match o.get k with
        | some (.box cs) => if f + ys.length ≤ cs.length then some (o.set k (some (.box (cs.take f ++ ys ++ cs.drop (f + ys.length))))) else none
        | _ => none
      | _ => none
      else none
theorem xst_ok {o : TM AO} {t : TypeId} {x y : SV} {r : TM AO} (h : xst Θ o t x y = some r) {K : (Nat → Option AO) → Prop} (hK : K r.get) : stOp Θ o.get t x y K := by
  unfold xst at h
  split at h
  · cases h
  · rename_i i hi
    split at h
    · cases h
    · rename_i ys hys
      split at h
      · rename_i hl
        refine ⟨i, ys, hi, hys, hl, ?_⟩
        split at h
        · split at h
          · rename_i cs hcs
            split at h
            · rename_i hle
              simp only [Option.some.injEq] at h
              subst h
              rw [TM.get_set] at hK
              exact ⟨cs, hcs, hle, hK⟩
            · cases h
          · cases h
        · cases h
      · cases h

def xfd (o : Nat → Option AO) (t : TypeId) (x : SV) (f : Nat) : Option SV :=
  match Θ t with
  | none => none
  | some i => match i.k with
    | .struct fs => match fs[f]? with
      | none => none
      | some (off, ft) => match Θ ft with
        | none => none
        | some j => if j.sz = 0 then none else match x with
          | .loc k g => match o k with
            | some (.box _) => some (.loc k (g + off))
            | _ => none
          | .el x => (x.sub off j.sz j.k.agg).map .el
          | .rel k q g => match o k with
            | some (.row _ _ _) => some (.rel k q (g + off))
            | _ => none
          | _ => none
    | _ => none
theorem xfd_ok {o : Nat → Option AO} {t : TypeId} {x : SV} {f : Nat} {r : SV} (h : xfd Θ o t x f = some r) {K : SV → Prop} (hK : K r) : fdOp Θ o t x f K := by
  unfold xfd at h
  split at h
  · cases h
  · rename_i i hi
    split at h
    · rename_i fs hk
      split at h
      · cases h
      · rename_i off ft hf
        split at h
        · cases h
        · rename_i j hj
          split at h
          · cases h
          · rename_i hz
            refine ⟨i, fs, off, ft, j, hi, hk, hf, hj, hz, ?_⟩
            split at h
            · split at h
              · rename_i cs hcs
                simp only [Option.some.injEq] at h
                subst h
                exact ⟨⟨_, hcs⟩, hK⟩
              · cases h
            · obtain ⟨y, h1, rfl⟩ := Option.map_eq_some_iff.1 h
              exact ⟨y, h1, hK⟩
            · split at h
              · rename_i e z xs hcs
                simp only [Option.some.injEq] at h
                subst h
                exact ⟨⟨_, _, _, hcs⟩, hK⟩
              · cases h
            · cases h
    · cases h

def xfv (t : TypeId) (x : SV) (f : Nat) : Option SV :=
  match Θ t with
  | none => none
  | some i => match i.k with
    | .struct fs => match fs[f]? with
      | none => none
      | some (off, ft) => match Θ ft with
        | none => none
        | some j => match x with
          | .d x => (x.sub off j.sz j.k.agg).map .d
          | _ => none
    | _ => none
theorem xfv_ok {t : TypeId} {x : SV} {f : Nat} {r : SV} (h : xfv Θ t x f = some r) {K : SV → Prop} (hK : K r) : fvOp Θ t x f K := by
  unfold xfv at h
  split at h
  · cases h
  · rename_i i hi
    split at h
    · rename_i fs hk
      split at h
      · cases h
      · rename_i off ft hf
        split at h
        · cases h
        · rename_i j hj
          refine ⟨i, fs, off, ft, j, hi, hk, hf, hj, ?_⟩
          split at h
          · obtain ⟨y, h1, rfl⟩ := Option.map_eq_some_iff.1 h
            exact ⟨y, h1, hK⟩
          · cases h
    · cases h

def xix (o : Nat → Option AO) (t : TypeId) (x ix : SV) : Option SV :=
  match Θ t with
  | none => none
  | some i => match ix with
    | .d (.int _ n) => if n < 0 then none else match i.k with
      | .slice e => match Θ e with
        | none => none
        | some j => match x with
          | .d (.sl z xs) => if z = j.sz then (xs[n.toNat]?).map .el else none
          | .row q => match o q with
            | some (.row _ z xs) => if z = j.sz ∧ n.toNat < xs.length then some (.rel q n.toNat 0) else none
            | _ => none
          | _ => none
      | .arr m e => match Θ e with
        | none => none
        | some j => match x with
          | .loc q f => match o q with
            | some (.box _) => if n.toNat < m then some (.loc q (f + n.toNat * j.sz)) else none
            | _ => none
          | _ => none
      | _ => none
    | _ => none
theorem xix_ok {o : Nat → Option AO} {t : TypeId} {x ix : SV} {r : SV} (h : xix Θ o t x ix = some r) {K : SV → Prop} (hK : K r) : ixOp Θ o t x ix K := by
  unfold xix at h
  split at h
  · cases h
  · rename_i i hi
    split at h
    · rename_i k n
      split at h
      · cases h
      · rename_i hn
        split at h
        · rename_i e hk
          split at h
          · cases h
          · rename_i j hj
            refine ⟨i, e, j, k, n, hi, .inl hk, hj, rfl, by omega, ?_⟩
            split at h
            · split at h
              · rename_i hz
                obtain ⟨y, h1, rfl⟩ := Option.map_eq_some_iff.1 h
                exact ⟨hk, hz, y, h1, hK⟩
              · cases h
            · split at h
              · split at h
                · rename_i hz
                  obtain ⟨rfl, hlt⟩ := hz
                  simp only [Option.some.injEq] at h
                  subst h
                  rename_i hq
                  exact ⟨hk, _, _, hq, hlt, hK⟩
                · cases h
              · cases h
            · cases h
        · rename_i m e hk
          split at h
          · cases h
          · rename_i j hj
            split at h
            · split at h
              · rename_i hq
                split at h
                · rename_i hlt
                  simp only [Option.some.injEq] at h
                  subst h
                  exact ⟨i, e, j, k, n, hi, .inr ⟨m, hk, hlt⟩, hj, rfl, by omega, ⟨m, hk⟩, ⟨_, hq⟩, hK⟩
                · cases h
              · cases h
            · cases h
        · cases h
    · cases h

def xco (o : Nat → Option AO) (src dst : TypeId) (x : SV) : Option SV :=
  match Θ src with
  | none => none
  | some i => match Θ dst with
    | none => none
    | some j => match x with
      | .d (.int _ n) => match j.k with
        | .int k' => some (.d (.int k' (k'.wrap n)))
        | .str => match i.k with
          | .int _ => some (.d (.str (Utf8.encode n).data.toList))
          | _ => none
        | _ => none
      | .d (.str b) => match i.k with
        | .str => match j.k with
          | .str => some (.d (.str b))
          | .slice e => match Θ e with
            | none => none
            | some je => match je.k with
              | .int .u8 => if b.length ≤ 9223372036854775807 then some (.d (.sl 1 (bytesD b))) else none
              | _ => none
          | _ => none
        | _ => none
      | x => match j.k with
        | .str => match i.k with
          | .slice e => match Θ e with
            | none => none
            | some je => match je.k with
              | .int .u8 => match srcOf o 1 x with
                | none => none
                | some ys => (byteL ys).map fun b => .d (.str b)
              | _ => none
          | _ => none
        | _ => none
theorem xco_ok {o : Nat → Option AO} {src dst : TypeId} {x : SV} {r : SV} (h : xco Θ o src dst x = some r) {K : SV → Prop} (hK : K r) : coOp Θ o src dst x K := by
  unfold xco at h
  split at h
  · cases h
  · rename_i i hi
    split at h
    · cases h
    · rename_i j hj
      refine ⟨i, j, hi, hj, ?_⟩
      split at h
      · split at h
        · rename_i k' hk
          simp only [Option.some.injEq] at h; subst h
          simp only [hk]; exact hK
        · rename_i hk
          split at h
          · rename_i q hq
            simp only [Option.some.injEq] at h; subst h
            simp only [hk]; exact ⟨⟨q, hq⟩, hK⟩
          · cases h
        · cases h
      · split at h
        · rename_i hi2
          refine ⟨hi2, ?_⟩
          split at h
          · rename_i hk
            simp only [Option.some.injEq] at h; subst h
            simp only [hk]; exact hK
          · rename_i e hk
            split at h
            · cases h
            · rename_i je he
              split at h
              · rename_i hje
                split at h
                · rename_i hle
                  simp only [Option.some.injEq] at h; subst h
                  simp only [hk]; exact ⟨⟨je, he, hje⟩, hle, hK⟩
                · cases h
              · cases h
          · cases h
        · cases h
      · rename_i x h1 h2
        split at h
        · rename_i hk
          split at h
          · rename_i e hik
            split at h
            · cases h
            · rename_i je he
              split at h
              · rename_i hje
                split at h
                · cases h
                · rename_i ys hys
                  obtain ⟨b, hb, rfl⟩ := Option.map_eq_some_iff.1 h
                  split
                  · rename_i a b; exact absurd rfl (h1 _ _)
                  · rename_i b; exact absurd rfl (h2 _)
                  · exact ⟨hk, ⟨e, je, hik, he, hje⟩, ys, b, hys, hb, hK⟩
              · cases h
          · cases h
        · cases h

theorem mxhi {hi mx : Option SV} (h : mx.isNone = true ∨ hi.isNone = false) : mx = none ∨ hi ≠ none := by cases mx <;> cases hi <;> simp_all
def xsl (o : TM AO) (nk : Nat) (t : TypeId) (x : SV) (lo hi mx : Option SV) : Option XR :=
  match Θ t with
  | none => none
  | some i => match x with
    | .d (.str b) => match i.k, mx with
      | .str, none => match bndO b.length b.length hi with
        | none => none
        | some h => match bndO h 0 lo with
          | none => none
          | some l => some (.d (.str ((b.take h).drop l)), o, nk)
      | _, _ => none
    | .d .nil => match i.k with
      | .slice e => match Θ e, mx, bndO 0 0 hi, bndO 0 0 lo with
        | some _, none, some 0, some 0 => some (.d .nil, o, nk)
        | _, _, _, _ => none
      | _ => none
    | .d (.sl z xs) => match i.k with
      | .slice e => match Θ e with
        | none => none
        | some j => if j.sz = z ∧ (mx.isNone = true ∨ hi.isNone = false) then match bndO xs.length xs.length mx with
          | none => none
          | some m => match bndO m m hi with
            | none => none
            | some h => match bndO h 0 lo with
              | none => none
              | some l => some (.d (.sl z ((xs.take h).drop l)), o, nk)
          else none
      | _ => none
    | .row q => match i.k with
      | .slice e => match Θ e with
        | none => none
        | some j => match o.get q, mx with
          | some (.row e' z xs), none => if e' = e ∧ z = j.sz then match bndO xs.length xs.length hi with
            | none => none
            | some h => match bndO h 0 lo with
              | some 0 => some (.row nk, (o.set q none).set nk (some (.row e j.sz (xs.take h))), nk + 1)
              | _ => none
            else none
          | _, _ => none
      | _ => none
    | _ => none
theorem xsl_ok {o : TM AO} {nk : Nat} {t : TypeId} {x : SV} {lo hi mx : Option SV} {r : SV} {o' : TM AO} {nk' : Nat} (h : xsl Θ o nk t x lo hi mx = some (r, o', nk')) {K : SV → (Nat → Option AO) → Nat → Prop} (hK : K r o'.get nk') : slOp Θ o.get nk t x lo hi mx K := by
  unfold xsl at h
  split at h
  · cases h
  · rename_i i hi'
    split at h
    · split at h
      · rename_i hk
        split at h
        · cases h
        · rename_i m hm
          split at h
          · cases h
          · rename_i l hl
            simp only [Option.some.injEq, Prod.mk.injEq] at h
            obtain ⟨rfl, rfl, rfl⟩ := h
            exact ⟨⟨i, hi', hk⟩, rfl, m, l, hm, hl, hK⟩
      · cases h
    · split at h
      · rename_i e hk
        split at h
        · rename_i j he h1 h2
          simp only [Option.some.injEq, Prod.mk.injEq] at h
          obtain ⟨rfl, rfl, rfl⟩ := h
          exact ⟨⟨i, e, j, hi', hk, he⟩, .inl rfl, rfl, h1, h2, hK⟩
        · cases h
      · cases h
    · split at h
      · rename_i e hk
        split at h
        · cases h
        · rename_i j hj
          split at h
          · rename_i hc
            split at h
            · cases h
            · rename_i m hm
              split at h
              · cases h
              · rename_i p hp
                split at h
                · cases h
                · rename_i l hl
                  simp only [Option.some.injEq, Prod.mk.injEq] at h
                  obtain ⟨rfl, rfl, rfl⟩ := h
                  exact ⟨⟨i, e, j, hi', hk, hj, hc.1⟩, mxhi hc.2, m, p, l, hm, hp, hl, hK⟩
          · cases h
      · cases h
    · split at h
      · rename_i e hk
        split at h
        · cases h
        · rename_i j hj
          split at h
          · rename_i hq
            split at h
            · rename_i hc
              obtain ⟨rfl, rfl⟩ := hc
              split at h
              · cases h
              · rename_i p hp
                split at h
                · rename_i hl
                  simp only [Option.some.injEq, Prod.mk.injEq] at h
                  obtain ⟨rfl, rfl, rfl⟩ := h
                  rw [TM.get_set, TM.get_set] at hK
                  exact ⟨i, _, j, _, p, hi', hk, hj, hq, rfl, hp, hl, hK⟩
                · cases h
            · cases h
          · cases h
      · cases h
    · cases h

def xbs (o : TM AO) (nk : Nat) (t : TypeId) (n : Nat) (parts : List (Nat × SV)) : Option XR :=
  match Θ t with
  | none => none
  | some i => match i.k with
    | .slice e => match Θ e with
      | none => none
      | some j => match j.z with
        | none => none
        | some l => if l.length = j.sz ∧ 0 < j.sz ∧ n * j.sz ≤ 16777216 then match partsL j.sz 0 parts with
          | none => none
          | some xs => if xs.length = n then
              if n = 0 then some (.row nk, o.set nk (some (.row e j.sz xs)), nk + 1) else some (.dx j.sz xs, o, nk)
            else none
          else none
    | _ => none
theorem xbs_ok {o : TM AO} {nk : Nat} {t : TypeId} {n : Nat} {parts : List (Nat × SV)} {r : SV} {o' : TM AO} {nk' : Nat} (h : xbs Θ o nk t n parts = some (r, o', nk')) {K : SV → (Nat → Option AO) → Nat → Prop} (hK : K r o'.get nk') : bsOp Θ o.get nk t n parts K := by
  unfold xbs at h
  split at h
  · cases h
  · rename_i i hi
    split at h
    · rename_i e hk
      split at h
      · cases h
      · rename_i j hj
        split at h
        · cases h
        · rename_i l hz
          split at h
          · rename_i hc
            split at h
            · cases h
            · rename_i xs hxs
              split at h
              · rename_i hn
                refine ⟨i, e, j, l, xs, hi, hk, hj, hz, hc.1, hc.2.1, hxs, hn, hc.2.2, ?_⟩
                split at h
                · rename_i h0
                  simp only [Option.some.injEq, Prod.mk.injEq] at h
                  obtain ⟨rfl, rfl, rfl⟩ := h
                  rw [if_pos h0]; rw [TM.get_set] at hK; exact hK
                · rename_i h0
                  simp only [Option.some.injEq, Prod.mk.injEq] at h
                  obtain ⟨rfl, rfl, rfl⟩ := h
                  rw [if_neg h0]; exact .inr (.inl hK)
              · cases h
          · cases h
    · cases h

def xbu (t : TypeId) (parts : List (Nat × SV)) : Option SV :=
  match Θ t with
  | none => none
  | some i => match i.k with
    | .struct fs => match i.z with
      | none => none
      | some l => (fillL (placeOf Θ fs) l parts).map fun ds => .d (.agg ds)
    | _ => none
theorem xbu_ok {t : TypeId} {parts : List (Nat × SV)} {r : SV} (h : xbu Θ t parts = some r) {K : SV → Prop} (hK : K r) : buOp Θ t parts K := by
  unfold xbu at h
  split at h
  · cases h
  · rename_i i hi
    split at h
    · rename_i fs hk
      split at h
      · cases h
      · rename_i l hz
        obtain ⟨ds, hd, rfl⟩ := Option.map_eq_some_iff.1 h
        exact ⟨i, fs, l, ds, hi, hk, hz, hd, hK⟩
    · cases h

def isStr : TK → Bool
  | .str => true
  | _ => false
def isSl : TK → Bool
  | .slice _ => true
  | _ => false
theorem isStr_ok {k : TK} (h : isStr k = true) : k = .str := by cases k <;> simp_all [isStr]
theorem isSl_ok {k : TK} (h : isSl k = true) : ∃ e, k = .slice e := by cases k <;> simp_all [isSl]
def xle (o : Nat → Option AO) (ts : List TypeId) (x : SV) : Option SV :=
  match ts with
  | [t] => match Θ t with
    | none => none
    | some i => match (match x with
        | .d (.str _) => isStr i.k
        | _ => isSl i.k) with
      | true => (lenD o x).map fun (n : Nat) => SV.d (.int .i64 (n : Int))
      | false => none
  | _ => none
theorem xle_ok {o : Nat → Option AO} {ts : Array TypeId} {x : SV} {r : SV} (h : xle Θ o ts.toList x = some r) {K : SV → Prop} (hK : K r) : leOp Θ o ts x K := by
  unfold xle at h
  split at h
  · rename_i t ht
    have hts : ts = #[t] := by cases ts; simp_all
    split at h
    · cases h
    · rename_i i hi
      split at h
      · rename_i hc
        obtain ⟨n, hn, rfl⟩ := Option.map_eq_some_iff.1 h
        refine ⟨t, i, hts, hi, ?_, n, hn, hK⟩
        split at hc
        · exact isStr_ok hc
        · rename_i hx
          split
          · rename_i b; exact absurd rfl (hx b)
          · exact isSl_ok hc
      · cases h
  · cases h

def xap (o : TM AO) (nk : Nat) (ts : List TypeId) (x y : SV) : Option XR :=
  match ts with
  | [t, u] => match Θ t with
    | none => none
    | some i => match i.k with
      | .slice e => match Θ e with
        | none => none
        | some j => match j.z with
          | none => none
          | some l => match dstOf o.get e j.sz x with
            | none => none
            | some (q, xs) => match (match y with
                | .d (.str b) => match Θ u with
                  | none => none
                  | some v => match v.k, j.k, l with
                    | .str, .int .u8, [.int .u8 0] => if j.sz = 1 ∧ j.bys = 1 then some (b.map fun (c : UInt8) => D.int .u8 (c.toNat : Int)) else none
                    | _, _, _ => none
                | y => if u = t then srcOf o.get j.sz y else none) with
              | none => none
              | some ys => if l.length = j.sz ∧ 0 < j.sz ∧ xs.length + ys.length ≤ 9223372036854775807 ∧ (xs.length + ys.length) * j.bys ≤ 140737488355328 then
                  some (.row nk, (match q with
                    | none => o
                    | some t => o.set t none).set nk (some (.row e j.sz (xs ++ ys))), nk + 1)
                else none
      | _ => none
  | _ => none
theorem xap_ok {o : TM AO} {nk : Nat} {ts : Array TypeId} {x y : SV} {r : SV} {o' : TM AO} {nk' : Nat} (h : xap Θ o nk ts.toList x y = some (r, o', nk')) {K : SV → (Nat → Option AO) → Nat → Prop} (hK : K r o'.get nk') : apOp Θ o.get nk ts x y K := by
  unfold xap at h
  split at h
  · rename_i t u ht
    have hts : ts = #[t, u] := by cases ts; simp_all
    split at h
    · cases h
    · rename_i i hi
      split at h
      · rename_i e hk
        split at h
        · cases h
        · rename_i j hj
          split at h
          · cases h
          · rename_i l hz
            split at h
            · cases h
            · rename_i q xs hd
              split at h
              · cases h
              · rename_i ys hys
                split at h
                · rename_i hc
                  simp only [Option.some.injEq, Prod.mk.injEq] at h
                  obtain ⟨rfl, rfl, rfl⟩ := h
                  refine ⟨t, u, i, e, j, l, q, xs, ys, hts, hi, hk, hj, hz, hc.1, hc.2.1, hd, ?_, hc.2.2.1, hc.2.2.2, ?_⟩
                  · split at hys
                    · split at hys
                      · cases hys
                      · rename_i v hv
                        split at hys
                        · rename_i _ h1 h2
                          split at hys
                          · rename_i h4
                            simp only [Option.some.injEq] at hys
                            subst hys
                            exact ⟨⟨v, hv, h1⟩, h2, h4.1, h4.2, rfl, rfl⟩
                          · cases hys
                        · cases hys
                    · rename_i hx
                      split at hys
                      · rename_i hu
                        split
                        · rename_i b; exact absurd rfl (hx b)
                        · exact ⟨hu, hys⟩
                      · cases hys
                  · rw [TM.get_set] at hK
                    cases q with
                    | none => exact hK
                    | some q => rw [TM.get_set] at hK; exact hK
                · cases h
      · cases h
  · cases h

def xev (s : XS) : Operand → SV
  | .tmp t => match s.sl.get t with
    | some v => v
    | none => .any
  | .const v => cst v
  | .func f => .clo f [] []
  | .global _ => .any
theorem xev_eq (s : XS) (x : Operand) : xev s x = ev s.st.sl x := by
  cases x <;> simp only [xev, ev, XS.st]
  split <;> simp_all

/-- The letters that an iterator stands at. -/
def itAt : RO → Option (List UInt8 × Nat)
  | .ob (.stringIter b pos) => some (b.data.toList, pos)
  | _ => none
theorem itAt_ok {ob : RO} {l : List UInt8} {pos : Nat} (h : itAt ob = some (l, pos)) : ob = itOb l pos := by
  unfold itAt at h
  split at h
  · rename_i b p
    simp only [Option.some.injEq, Prod.mk.injEq] at h
    obtain ⟨rfl, rfl⟩ := h
    obtain ⟨⟨a⟩⟩ := b
    rfl
  · cases h

/-- One operation, computed. -/
def xOp0 (op : Op) (s : XS) : Option XR :=
  match op with
  | .move x => some (xev s x, s.o, s.nk)
  | .assign x => some (xev s x, s.o, s.nk)
  | .pick c x y => match xev s c with
    | .d (.bool true) => some (xev s x, s.o, s.nk)
    | .d (.bool false) => some (xev s y, s.o, s.nk)
    | _ => none
  | .alloc e => match Θ e with
    | none => none
    | some i => match i.z with
      | none => none
      | some l => some (.loc s.nk 0, s.o.set s.nk (some (.box (l.map .d))), s.nk + 1)
  | .box e x => match (xev s x).cells s.o.get with
    | none => none
    | some cs => some (.loc s.nk 0, s.o.set s.nk (some (.box cs)), s.nk + 1)
  | .build t parts => (xbu Θ t (parts.toList.map fun p => (p.1, xev s p.2))).map fun v => (v, s.o, s.nk)
  | .buildSlice t n parts => xbs Θ s.o s.nk t n (parts.toList.map fun p => (p.1, (xev s p.2)))
  | .load t x => (xld Θ s.o.get t (xev s x)).map fun v => (v, s.o, s.nk)
  | .store t x y => (xst Θ s.o t (xev s x) (xev s y)).map fun o' => (.any, o', s.nk)
  | .nilCheck x => match xev s x with
    | .loc k f => match s.o.get k with
      | some (.box _) => some (.loc k f, s.o, s.nk)
      | _ => none
    | .el x => some (.el x, s.o, s.nk)
    | .clo a b c => some (.clo a b c, s.o, s.nk)
    | _ => none
  | .binOp b t x y _ => (xbn Θ s.o.get b t (xev s x) (xev s y)).map fun v => (.d v, s.o, s.nk)
  | .unOp b _ x => (unOpD b (xev s x)).map fun v => (.d v, s.o, s.nk)
  | .convert src dst x => (xco Θ s.o.get src dst (xev s x)).map fun v => (v, s.o, s.nk)
  | .makeFunc fn fs cs => match fn with
    | .func f => some (.clo f (fs.toList.map (xev s)) (cs.toList.map (xev s)), s.o, s.nk)
    | _ => none
  | .slice t x lo hi mx => xsl Θ s.o s.nk t (xev s x) (lo.map (xev s)) (hi.map (xev s)) (mx.map (xev s))
  | .fieldAddr t x f => (xfd Θ s.o.get t (xev s x) f).map fun v => (v, s.o, s.nk)
  | .field t x f => (xfv Θ t (xev s x) f).map fun v => (v, s.o, s.nk)
  | .indexAddr t x ix => (xix Θ s.o.get t (xev s x) (xev s ix)).map fun v => (v, s.o, s.nk)
  | .index t x ix => match Θ t with
    | none => none
    | some i => match i.k, xev s x, xev s ix with
      | .str, .d (.str l), .d (.int _ n) => if 0 ≤ n ∧ n.toNat < l.length then some (.d (.int .u8 (bAt l n.toNat)), s.o, s.nk) else none
      | _, _, _ => none
  | .extract x q => match xev s x with
    | .tup xs => (xs[q]?).map fun c => (c, s.o, s.nk)
    | _ => none
  | .call c => match c.callee with
    | .builtin b => match b, c.args.toList with
      | .len, [x] => (xle Θ s.o.get c.argTypes.toList (xev s x)).map fun v => (v, s.o, s.nk)
      | .append, [x, y] => xap Θ s.o s.nk c.argTypes.toList (xev s x) (xev s y)
      | .max, [x, y] => (mmD true (xev s x) (xev s y)).map fun v => (.d v, s.o, s.nk)
      | .min, [x, y] => (mmD false (xev s x) (xev s y)).map fun v => (.d v, s.o, s.nk)
      | _, _ => none
    | .value x => match xev s x with
      | .clo f fs cs => call f (fs ++ c.args.toList.map (xev s) ++ cs) s.o s.nk
      | _ => none
    | _ => none
  | .range t x => match Θ t with
    | none => none
    | some i => match i.k, xev s x with
      | .str, .d (.str l) => some (.raw s.nk, s.o.set s.nk (some (.raw (itOb l 0))), s.nk + 1)
      | _, _ => none
  | .next x true => match xev s x with
    | .raw k => match s.o.get k with
      | some (.raw ob) => match itAt ob with
        | none => none
        | some (l, pos) => if pos < l.length then some (.tup [.d (.bool true), .d (.int .i64 pos), .d (.int .i32 (Utf8.decode ⟨l.toArray⟩ pos).1)], s.o.set k (some (.raw (itOb l (pos + (Utf8.decode ⟨l.toArray⟩ pos).2)))), s.nk)
            else some (.tup [.d (.bool false)], s.o, s.nk)
      | _ => none
    | _ => none
  | _ => none
end
theorem xOp0_ok {P : Program} {Θ : Tab} {call : Nat → List SV → TM AO → Nat → Option XR} (hc : ∀ f asx o nk r o' nk', call f asx o nk = some (r, o', nk') → Spec P f asx o.get nk fun r2 o2 n2 => r2 = r ∧ o2 = o'.get ∧ n2 = nk')
    {op : Op} {s : XS} {r : SV} {o' : TM AO} {nk' : Nat} (h : xOp0 Θ call op s = some (r, o', nk')) {K : SV → (Nat → Option AO) → Nat → Prop} (hK : K r o'.get nk') : vOp0 P Θ op s.st K := by
  have hev : ∀ x, xev s x = ev s.st.sl x := xev_eq s
  have hev2 : xev s = ev s.st.sl := funext hev
  have ho : s.st.o = s.o.get := rfl
  have hn : s.st.nk = s.nk := rfl
  have mp : ∀ {α : Type} {x : Option α} {f : α → XR}, x.map f = some (r, o', nk') → ∃ v, x = some v ∧ f v = (r, o', nk') := fun h => by simpa using h
  unfold xOp0 at h
  simp only [hev2] at h
  cases op with
  | move x => simp only [Option.some.injEq, Prod.mk.injEq] at h; obtain ⟨rfl, rfl, rfl⟩ := h; exact hK
  | assign x => simp only [Option.some.injEq, Prod.mk.injEq] at h; obtain ⟨rfl, rfl, rfl⟩ := h; exact hK
  | pick c x y =>
    simp only at h
    split at h
    · rename_i hb
      simp only [Option.some.injEq, Prod.mk.injEq] at h; obtain ⟨rfl, rfl, rfl⟩ := h
      exact ⟨true, hb, hK⟩
    · rename_i hb
      simp only [Option.some.injEq, Prod.mk.injEq] at h; obtain ⟨rfl, rfl, rfl⟩ := h
      exact ⟨false, hb, hK⟩
    · cases h
  | alloc e =>
    simp only at h
    split at h
    · cases h
    · rename_i i hi
      split at h
      · cases h
      · rename_i l hz
        simp only [Option.some.injEq, Prod.mk.injEq] at h; obtain ⟨rfl, rfl, rfl⟩ := h
        rw [TM.get_set] at hK
        exact ⟨i, l, hi, hz, hK⟩
  | box e x =>
    simp only at h
    split at h
    · cases h
    · rename_i cs hcs
      simp only [Option.some.injEq, Prod.mk.injEq] at h; obtain ⟨rfl, rfl, rfl⟩ := h
      rw [TM.get_set] at hK
      exact ⟨cs, hcs, hK⟩
  | build t parts =>
    simp only at h
    obtain ⟨v, h1, h2⟩ := mp h
    simp only [Prod.mk.injEq] at h2; obtain ⟨rfl, rfl, rfl⟩ := h2
    exact xbu_ok Θ h1 (K := fun v => K v s.st.o s.st.nk) hK
  | buildSlice t n parts => exact xbs_ok Θ h hK
  | load t x =>
    simp only at h
    obtain ⟨v, h1, h2⟩ := mp h
    simp only [Prod.mk.injEq] at h2; obtain ⟨rfl, rfl, rfl⟩ := h2
    exact xld_ok Θ h1 (K := fun v => K v s.st.o s.st.nk) hK
  | store t x y =>
    simp only at h
    obtain ⟨v, h1, h2⟩ := mp h
    simp only [Prod.mk.injEq] at h2; obtain ⟨rfl, rfl, rfl⟩ := h2
    exact xst_ok Θ h1 (K := fun o' => K .any o' s.st.nk) hK
  | nilCheck x =>
    simp only at h
    split at h
    · rename_i k f hx
      split at h
      · rename_i cs hcs
        simp only [Option.some.injEq, Prod.mk.injEq] at h; obtain ⟨rfl, rfl, rfl⟩ := h
        exact ⟨by rw [hx]; exact ⟨_, hcs⟩, by rw [hx]; exact hK⟩
      · cases h
    · rename_i y hx
      simp only [Option.some.injEq, Prod.mk.injEq] at h; obtain ⟨rfl, rfl, rfl⟩ := h
      exact ⟨by rw [hx]; trivial, by rw [hx]; exact hK⟩
    · rename_i a b c hx
      simp only [Option.some.injEq, Prod.mk.injEq] at h; obtain ⟨rfl, rfl, rfl⟩ := h
      exact ⟨by rw [hx]; trivial, by rw [hx]; exact hK⟩
    · cases h
  | binOp b t x y u =>
    simp only at h
    obtain ⟨v, h1, h2⟩ := mp h
    simp only [Prod.mk.injEq] at h2; obtain ⟨rfl, rfl, rfl⟩ := h2
    exact xbn_ok Θ h1 (K := fun v => K v s.st.o s.st.nk) hK
  | unOp b t x =>
    simp only at h
    obtain ⟨v, h1, h2⟩ := mp h
    simp only [Prod.mk.injEq] at h2; obtain ⟨rfl, rfl, rfl⟩ := h2
    exact ⟨v, h1, hK⟩
  | convert src dst x =>
    simp only at h
    obtain ⟨v, h1, h2⟩ := mp h
    simp only [Prod.mk.injEq] at h2; obtain ⟨rfl, rfl, rfl⟩ := h2
    exact xco_ok Θ h1 (K := fun v => K v s.st.o s.st.nk) hK
  | makeFunc fn fs cs =>
    cases fn with
    | func f =>
      simp only [Option.some.injEq, Prod.mk.injEq] at h; obtain ⟨rfl, rfl, rfl⟩ := h
      exact hK
    | _ => cases h
  | slice t x lo hi mx => exact xsl_ok Θ h hK
  | fieldAddr t x f =>
    simp only at h
    obtain ⟨v, h1, h2⟩ := mp h
    simp only [Prod.mk.injEq] at h2; obtain ⟨rfl, rfl, rfl⟩ := h2
    exact xfd_ok Θ h1 (K := fun v => K v s.st.o s.st.nk) hK
  | field t x f =>
    simp only at h
    obtain ⟨v, h1, h2⟩ := mp h
    simp only [Prod.mk.injEq] at h2; obtain ⟨rfl, rfl, rfl⟩ := h2
    exact xfv_ok Θ h1 (K := fun v => K v s.st.o s.st.nk) hK
  | indexAddr t x ix =>
    simp only at h
    obtain ⟨v, h1, h2⟩ := mp h
    simp only [Prod.mk.injEq] at h2; obtain ⟨rfl, rfl, rfl⟩ := h2
    exact xix_ok Θ h1 (K := fun v => K v s.st.o s.st.nk) hK
  | index t x ix =>
    simp only at h
    split at h
    · cases h
    · rename_i i hi
      split at h
      · rename_i h1 h2 h3
        split at h
        · rename_i hb
          simp only [Option.some.injEq, Prod.mk.injEq] at h; obtain ⟨rfl, rfl, rfl⟩ := h
          exact ⟨i, _, _, _, hi, h1, h2, h3, hb.1, hb.2, hK⟩
        · cases h
      · cases h
  | extract x q =>
    simp only at h
    split at h
    · rename_i xs hx
      obtain ⟨v, h1, h2⟩ := mp h
      simp only [Prod.mk.injEq] at h2; obtain ⟨rfl, rfl, rfl⟩ := h2
      exact ⟨xs, _, hx, h1, hK⟩
    · cases h
  | call c =>
    obtain ⟨callee, asx, ts⟩ := c
    simp only at h
    cases callee with
    | builtin b =>
      simp only at h
      show blOp Θ s.st b ts asx.toList K
      split at h
      · rename_i x hx
        obtain ⟨v, h1, h2⟩ := mp h
        simp only [Prod.mk.injEq] at h2; obtain ⟨rfl, rfl, rfl⟩ := h2
        rw [hx]
        exact xle_ok Θ h1 (K := fun v => K v s.st.o s.st.nk) hK
      · rename_i x y hx
        rw [hx]
        exact xap_ok Θ h hK
      · rename_i x y hx
        obtain ⟨v, h1, h2⟩ := mp h
        simp only [Prod.mk.injEq] at h2; obtain ⟨rfl, rfl, rfl⟩ := h2
        rw [hx]
        exact ⟨v, h1, hK⟩
      · rename_i x y hx
        obtain ⟨v, h1, h2⟩ := mp h
        simp only [Prod.mk.injEq] at h2; obtain ⟨rfl, rfl, rfl⟩ := h2
        rw [hx]
        exact ⟨v, h1, hK⟩
      · cases h
    | value x =>
      simp only at h
      split at h
      · rename_i f fs cs hx
        refine ⟨f, fs, cs, hx, ?_⟩
        exact (hc _ _ _ _ _ _ _ h).mono (by rintro r2 o2 n2 ⟨rfl, rfl, rfl⟩; exact hK)
      · cases h
    | _ => cases h
  | range t x =>
    simp only at h
    split at h
    · cases h
    · rename_i i hi
      split at h
      · rename_i h1 h2
        simp only [Option.some.injEq, Prod.mk.injEq] at h; obtain ⟨rfl, rfl, rfl⟩ := h
        rw [TM.get_set] at hK
        exact ⟨i, _, hi, h1, h2, hK⟩
      · cases h
  | next x b =>
    cases b with
    | false => cases h
    | true =>
      simp only at h
      split at h
      · rename_i k hx
        split at h
        · rename_i ob hq
          split at h
          · cases h
          · rename_i l pos hit
            have hob := itAt_ok hit
            subst hob
            split at h
            · rename_i hlt
              simp only [Option.some.injEq, Prod.mk.injEq] at h; obtain ⟨rfl, rfl, rfl⟩ := h
              rw [TM.get_set] at hK
              refine ⟨rfl, k, l, pos, hx, hq, ?_⟩
              rw [if_pos hlt]; exact hK
            · rename_i hlt
              simp only [Option.some.injEq, Prod.mk.injEq] at h; obtain ⟨rfl, rfl, rfl⟩ := h
              refine ⟨rfl, k, l, pos, hx, hq, ?_⟩
              rw [if_neg hlt]; exact hK
        · cases h
      · cases h
  | _ => cases h
def setO2 (o : TM AO) : List (Nat × Option AO) → TM AO
  | [] => o
  | (k, x) :: r => setO2 (o.set k x) r
theorem setO2_get : ∀ (l : List (Nat × Option AO)) (o : TM AO), (setO2 o l).get = upds o.get l
  | [], o => rfl
  | (k, x) :: r, o => by rw [setO2, setO2_get r, TM.get_set]; rfl
/-- One operation, computed. -/
def xOp (Θ : Tab) (call : Nat → List SV → TM AO → Nat → Option XR) (op : Op) (s : XS) : Option XR :=
  match nQ Θ op (xev s) s.o.get with
  | some v => some (v, s.o, s.nk)
  | none => match nW0 Θ op (xev s) s.o.get s.nk with
    | some (v, l, nk') => some (v, setO2 s.o l, nk')
    | none => match xOp0 Θ call op s with
      | some r => some r
      | none => match nWF Θ op (xev s) s.o.get s.nk op.operands.toList with
        | some (v, l, nk') => some (v, setO2 s.o l, nk')
        | none => none
theorem xOp_ok {P : Program} {Θ : Tab} {call : Nat → List SV → TM AO → Nat → Option XR} (hc : ∀ f asx o nk r o' nk', call f asx o nk = some (r, o', nk') → Spec P f asx o.get nk fun r2 o2 n2 => r2 = r ∧ o2 = o'.get ∧ n2 = nk')
    {op : Op} {s : XS} {r : SV} {o' : TM AO} {nk' : Nat} (h : xOp Θ call op s = some (r, o', nk')) {K : SV → (Nat → Option AO) → Nat → Prop} (hK : K r o'.get nk') : vOp P Θ op s.st K := by
  have hev : xev s = ev s.st.sl := funext (xev_eq s)
  unfold xOp at h
  rw [hev] at h
  split at h
  · rename_i v hv
    simp only [Option.some.injEq, Prod.mk.injEq] at h
    obtain ⟨rfl, rfl, rfl⟩ := h
    exact .inr (.inl ⟨_, hv, hK⟩)
  · split at h
    · rename_i v l nk2 hv
      simp only [Option.some.injEq, Prod.mk.injEq] at h
      obtain ⟨rfl, rfl, rfl⟩ := h
      refine .inr (.inr ⟨_, nW_of0 hv, ?_⟩)
      rw [setO2_get] at hK
      exact hK
    · rename_i hn
      split at h
      · rename_i r0 h0
        simp only [Option.some.injEq] at h
        subst h
        exact .inl (xOp0_ok hc h0 hK)
      · split at h
        · rename_i v l nk2 hv
          simp only [Option.some.injEq, Prod.mk.injEq] at h
          obtain ⟨rfl, rfl, rfl⟩ := h
          refine .inr (.inr ⟨_, nW_ofF hn hv, ?_⟩)
          rw [setO2_get] at hK
          exact hK
        · cases h
end Go.Proofs.YtpkcbdhjnnnkbaaGreat.Abs

/- A run of code that is computed: regions, loops, calls; rows are frozen where their elements are read. -/
set_option linter.unusedVariables false
set_option linter.unusedSimpArgs false
namespace Go.Proofs.YtpkcbdhjnnnkbaaGreat.Abs
open Go

mutual
def D.eqb : D → D → Bool
  | .int k n, .int k2 n2 => decide (k = k2) && decide (n = n2)
  | .bool a, .bool b => a == b
  | .str s, .str t => decide (s = t)
  | .sl z xs, .sl z2 ys => decide (z = z2) && D.eqbs xs ys
  | .agg xs, .agg ys => D.eqbs xs ys
  | .nilp, .nilp => true
  | .nil, .nil => true
  | .nilk a, .nilk b => decide (a = b)
  | _, _ => false
def D.eqbs : List D → List D → Bool
  | [], [] => true
  | x :: xs, y :: ys => D.eqb x y && D.eqbs xs ys
  | _, _ => false
end
mutual
theorem D.eqb_ok : ∀ x y : D, D.eqb x y = true → x = y
  | .int k n, y, h => by cases y <;> simp [D.eqb] at h; obtain ⟨rfl, rfl⟩ := h; rfl
  | .bool a, y, h => by cases y <;> simp [D.eqb] at h; subst h; rfl
  | .str s, y, h => by cases y <;> simp [D.eqb] at h; subst h; rfl
  | .sl z xs, y, h => by
    cases y <;> simp [D.eqb] at h
    obtain ⟨rfl, h⟩ := h
    rw [D.eqbs_ok xs _ h]
  | .agg xs, y, h => by
    cases y <;> simp [D.eqb] at h
    rw [D.eqbs_ok xs _ h]
  | .nilp, y, h => by cases y <;> simp [D.eqb] at h; rfl
  | .nil, y, h => by cases y <;> simp [D.eqb] at h; rfl
  | .nilk k, y, h => by cases y <;> simp [D.eqb] at h; subst h; rfl
theorem D.eqbs_ok : ∀ xs ys : List D, D.eqbs xs ys = true → xs = ys
  | [], [], _ => rfl
  | [], y :: ys, h => by simp [D.eqbs] at h
  | x :: xs, [], h => by simp [D.eqbs] at h
  | x :: xs, y :: ys, h => by
    simp only [D.eqbs, Bool.and_eq_true] at h
    rw [D.eqb_ok x y h.1, D.eqbs_ok xs ys h.2]
end
mutual
def SV.eqb : SV → SV → Bool
  | .d x, .d y => D.eqb x y
  | .loc a1 b1, .loc a2 b2 => decide (a1 = a2) && decide (b1 = b2)
  | .row a1, .row a2 => decide (a1 = a2)
  | .el x, .el y => D.eqb x y
  | .rel a1 b1 c1, .rel a2 b2 c2 => decide (a1 = a2) && decide (b1 = b2) && decide (c1 = c2)
  | .raw a1, .raw a2 => decide (a1 = a2)
  | .view a1 b1 c1 e1, .view a2 b2 c2 e2 => decide (a1 = a2) && decide (b1 = b2) && decide (c1 = c2) && decide (e1 = e2)
  | .dx z xs, .dx z2 ys => decide (z = z2) && D.eqbs xs ys
  | .tup xs, .tup ys => SV.eqbs xs ys
  | .ag xs, .ag ys => SV.eqbs xs ys
  | .clo f a b, .clo g a2 b2 => decide (f = g) && SV.eqbs a a2 && SV.eqbs b b2
  | .any, .any => true
  | _, _ => false
def SV.eqbs : List SV → List SV → Bool
  | [], [] => true
  | x :: xs, y :: ys => SV.eqb x y && SV.eqbs xs ys
  | _, _ => false
end
mutual
theorem SV.eqb_ok : ∀ {x y : SV}, SV.eqb x y = true → x = y
  | .d x, y, h => by cases y <;> simp [SV.eqb] at h; rw [D.eqb_ok _ _ h]
  | .loc a b, y, h => by cases y <;> simp [SV.eqb] at h; obtain ⟨rfl, rfl⟩ := h; rfl
  | .row a, y, h => by cases y <;> simp [SV.eqb] at h; subst h; rfl
  | .el x, y, h => by cases y <;> simp [SV.eqb] at h; rw [D.eqb_ok _ _ h]
  | .rel a b c, y, h => by cases y <;> simp [SV.eqb] at h; obtain ⟨⟨rfl, rfl⟩, rfl⟩ := h; rfl
  | .raw a, y, h => by cases y <;> simp [SV.eqb] at h; subst h; rfl
  | .view a b c e, y, h => by cases y <;> simp [SV.eqb] at h; obtain ⟨⟨⟨rfl, rfl⟩, rfl⟩, rfl⟩ := h; rfl
  | .dx z xs, y, h => by cases y <;> simp [SV.eqb] at h; obtain ⟨rfl, h⟩ := h; rw [D.eqbs_ok _ _ h]
  | .tup xs, y, h => by cases y <;> simp [SV.eqb] at h; rw [SV.eqbs_ok h]
  | .ag xs, y, h => by cases y <;> simp [SV.eqb] at h; rw [SV.eqbs_ok h]
  | .clo f a b, y, h => by cases y <;> simp [SV.eqb] at h; obtain ⟨⟨rfl, h1⟩, h2⟩ := h; rw [SV.eqbs_ok h1, SV.eqbs_ok h2]
  | .any, y, h => by cases y <;> first | rfl | (simp [SV.eqb] at h)
theorem SV.eqbs_ok : ∀ {xs ys : List SV}, SV.eqbs xs ys = true → xs = ys
  | [], [], _ => rfl
  | [], y :: ys, h => by simp [SV.eqbs] at h
  | x :: xs, [], h => by simp [SV.eqbs] at h
  | x :: xs, y :: ys, h => by
    simp only [SV.eqbs, Bool.and_eq_true] at h
    rw [SV.eqb_ok h.1, SV.eqbs_ok h.2]
end

/-! ### rows that are frozen -/
def XS.frz (s : XS) (t : Nat) : XS :=
  match s.o.get t with
  | some (.row _ z xs) => ⟨s.sl.mapT (SV.frz t (.sl z xs)), (s.o.mapT (AO.frz t (.sl z xs))).set t none, s.nk⟩
  | _ => s
theorem XS.frz_ok {E : Ent} {s : XS} {a : Act} {w : World} (t : Nat) (h : Rel E s.st a w) : Rel E (s.frz t).st a w := by
  unfold XS.frz
  split
  · rename_i e z xs ht
    have := h.freezeA 0 (t := t) (e := e) (z := z) (xs := xs) ht
    have e1 : (XS.st ⟨s.sl.mapT (SV.frz t (.sl z xs)), (s.o.mapT (AO.frz t (.sl z xs))).set t none, s.nk⟩) = { sl := fun u => (s.st.sl u).frz t (.sl z xs), o := frzo 0 s.st.o t (.sl z xs), nk := s.st.nk } := by
      simp only [XS.st, St.mk.injEq, and_true]
      constructor
      · funext u
        rw [TM.get_mapT]
        cases s.sl.get u <;> rfl
      · rw [TM.get_set]
        funext u
        simp only [upd, frzo, TM.get_mapT]
        split
        · rfl
        · simp
    rw [e1]; exact this
  · exact h
def XS.frzs (s : XS) : List Nat → XS
  | [] => s
  | t :: r => (s.frz t).frzs r
theorem XS.frzs_ok {E : Ent} {a : Act} {w : World} : ∀ (l : List Nat) {s : XS}, Rel E s.st a w → Rel E (s.frzs l).st a w
  | [], s, h => h
  | t :: r, s, h => frzs_ok r (s.frz_ok t h)
/-- Rows that a value tells of. -/
def rowsV : SV → List Nat
  | .row t => [t]
  | .rel t _ _ => [t]
  | .view t _ _ _ => [t]
  | _ => []
def rowsL : List SV → List Nat
  | [] => []
  | c :: r => rowsV c ++ rowsL r
def rowsO (o : TM AO) : SV → List Nat
  | .row t => [t]
  | .rel t _ _ => [t]
  | .view t _ _ _ => [t]
  | .loc t _ => match o.get t with
    | some (.box cs) => rowsL cs
    | _ => []
  | .tup cs => rowsL cs
  | _ => []

section
variable (Θ : Tab) (nofr : Nat → Bool) (call : Nat → List SV → TM AO → Nat → Option XR)

def putD (sl : TM SV) (d : Option Nat) (v : SV) : TM SV :=
  match d with
  | some d => sl.set d (some v)
  | none => sl
theorem putD_ok (sl : TM SV) (d : Option Nat) (v : SV) : (fun u => ((putD sl d v).get u).getD .any) = pt (fun u => (sl.get u).getD .any) d v := by
  cases d with
  | none => rfl
  | some d =>
    simp only [putD, pt, TM.get_set]
    funext u
    simp only [upd]
    split <;> rfl
theorem put_st (s : XS) (d : Option Nat) (v : SV) (o : TM AO) (nk : Nat) : (XS.mk (putD s.sl d v) o nk).st = { sl := pt s.st.sl d v, o := o.get, nk := nk } := by
  simp only [XS.st, putD_ok]

def xGuard (ops : Array Oper) (sl : TM SV) : Option (Nat × Bool) → Option Bool
  | none => some true
  | some (j, want) => match (ops[j]?).bind (·.dst) with
    | none => none
    | some d => match sl.get d with
      | some (.d (.bool b)) => some (if want = true then b else !b)
      | some (.tup []) => some false
      | _ => none
theorem xGuard_ok {ops : Array Oper} {s : XS} {g : Option (Nat × Bool)} {c : Bool} (h : xGuard ops s.sl g = some c) : gdc ops s.st g c := by
  unfold xGuard at h
  split at h
  · simp only [Option.some.injEq] at h; exact h.symm
  · rename_i j want
    split at h
    · cases h
    · rename_i d hd
      have hg : gsl ops s.st j = (s.sl.get d).getD .any := by unfold gsl; rw [hd]; rfl
      show GC (gsl ops s.st j) want c
      split at h
      · rename_i b hb
        simp only [Option.some.injEq] at h; subst h
        rw [hg, hb]
        exact .inl ⟨b, rfl, rfl⟩
      · rename_i hb
        simp only [Option.some.injEq] at h; subst h
        rw [hg, hb]
        exact .inr ⟨false, true, by rw [cnd_F]; rfl, rfl⟩
      · cases h

def callF : Op → Option Nat
  | .call c => match c.callee with
    | .value (.func f) => some f
    | _ => none
  | _ => none
def opVals (op : Op) (s : XS) : List SV := op.operands.toList.map (xev s)
def preF (op : Op) (s : XS) : List Nat :=
  match callF op with
  | some f => bif nofr f then [] else rowsL (opVals op s)
  | none => []
def postF (op : Op) (s : XS) : List Nat :=
  match op with
  | .store _ _ y => rowsO s.o (xev s y)
  | op => (opVals op s).flatMap (rowsO s.o)
def XS.soft (s : XS) : XS := ⟨s.sl.mapT SV.soft, s.o, s.nk⟩
theorem XS.soft_ok {E : Ent} {s : XS} {a : Act} {w : World} (h : Rel E s.st a w) : Rel E s.soft.st a w := by
  obtain ⟨S, γ, h⟩ := h
  have e : ∀ u, (s.soft.st.sl u) = (s.st.sl u).soft := fun u => by
    simp only [XS.soft, XS.st, TM.get_mapT]
    cases s.sl.get u <;> rfl
  exact ⟨S, γ, h.sto, h.tr, fun u => by rw [e]; exact (h.sl u).soft, fun u => by rw [e]; exact SV.soft_lt (h.slt u), h.df, h.nn⟩

def xStep (ops : Array Oper) (op : Oper) (s : XS) : Option XS :=
  match xGuard ops s.sl op.guard with
  | none => none
  | some false => some ⟨putD s.sl op.dst (.tup []), s.o, s.nk⟩
  | some true => match s.frzs (preF nofr op.op s) with
    | s1 => match xOp Θ call op.op s1 with
      | some (v, o', nk') => some ⟨putD s1.sl op.dst v, o', nk'⟩
      | none => match (s1.frzs (postF op.op s1)).soft with
        | s2 => match xOp Θ call op.op s2 with
          | some (v, o', nk') => some ⟨putD s2.sl op.dst v, o', nk'⟩
          | none => none
def xOps (ops : Array Oper) : List Oper → XS → Option XS
  | [], s => some s
  | op :: r, s => match xStep Θ nofr call ops op s with
    | some s' => xOps ops r s'
    | none => none
end
section
variable {P : Program} {Θ : Tab} {nofr : Nat → Bool} {call : Nat → List SV → TM AO → Nat → Option XR}
def CallOk (P : Program) (call : Nat → List SV → TM AO → Nat → Option XR) : Prop := ∀ f asx o nk r o' nk', call f asx o nk = some (r, o', nk') → Spec P f asx o.get nk fun r2 o2 n2 => r2 = r ∧ o2 = o'.get ∧ n2 = nk'
theorem gdc_wanted {E : Ent} {s : St} {a : Act} {w : World} {ops : Array Oper} {o : Oper} {c : Bool} (hr : Rel E s a w) (h : gdc ops s o.guard c) : Region.wanted o (yielded ops a.tmps) = c := by
  unfold gdc at h
  unfold Region.wanted
  split at h
  · rename_i hg; rw [hg]; exact h.symm
  · rename_i j want hg
    rw [hg]
    exact guard_yield hr h
theorem xStep_ok (hΘ : TabOk P Θ) (hc : CallOk P call) {E : Ent} {ops : Array Oper} {op : Oper} {s s' : XS} {a : Act} {w : World} {next : Act → World → Prop} {Q : Exit → Act → World → Prop} (h : xStep Θ nofr call ops op s = some s') (hr : Rel E s.st a w) (hd : dstOk E.n op.dst = true)
    (hn : ∀ a' w', Rel E s'.st a' w' → next a' w') : if Region.wanted op (yielded ops a.tmps) then op.wp P a w next Q else next (a.put op.dst undef) w := by
  unfold xStep at h
  split at h
  · cases h
  · rename_i hg
    have hw := gdc_wanted (o := op) hr (xGuard_ok hg)
    rw [if_neg (by rw [hw]; simp)]
    simp only [Option.some.injEq] at h
    subst h
    refine hn _ _ ?_
    rw [put_st]
    obtain ⟨S, γ, hr⟩ := hr
    exact ⟨S, γ, hr.put hd hr.sto (Tr.refl _ _ _ _ _) (.tup [] [] rfl (by simp)) trivial⟩
  · rename_i hg
    have hw := gdc_wanted (o := op) hr (xGuard_ok hg)
    rw [if_pos (by rw [hw])]
    simp only at h
    have hr1 := XS.frzs_ok (preF nofr op.op s) hr
    generalize s.frzs (preF nofr op.op s) = s1 at h hr1
    split at h
    · rename_i v o' nk' hx
      simp only [Option.some.injEq] at h
      subst h
      refine op_step hΘ hr1 hd (xOp_ok hc hx (K := fun v2 o2 n2 => v2 = v ∧ o2 = o'.get ∧ n2 = nk') ⟨rfl, rfl, rfl⟩) ?_
      rintro v2 o2 n2 a' w' ⟨rfl, rfl, rfl⟩ hr'
      refine hn _ _ ?_
      rw [put_st]; exact hr'
    · have hr2 := XS.soft_ok (XS.frzs_ok (postF op.op s1) hr1)
      generalize (s1.frzs (postF op.op s1)).soft = s2 at h hr2
      split at h
      · rename_i v o' nk' hx
        simp only [Option.some.injEq] at h
        subst h
        refine op_step hΘ hr2 hd (xOp_ok hc hx (K := fun v2 o2 n2 => v2 = v ∧ o2 = o'.get ∧ n2 = nk') ⟨rfl, rfl, rfl⟩) ?_
        rintro v2 o2 n2 a' w' ⟨rfl, rfl, rfl⟩ hr'
        refine hn _ _ ?_
        rw [put_st]; exact hr'
      · cases h
theorem xOps_ok (hΘ : TabOk P Θ) (hc : CallOk P call) {E : Ent} {ops : Array Oper} {Q : Exit → Act → World → Prop} {s' : XS} (hq : ∀ a w, Rel E s'.st a w → Q .normal a w) :
    ∀ (l : List Oper) (s : XS) (a : Act) (w : World), (l.all fun o => dstOk E.n o.dst) = true → Rel E s.st a w → xOps Θ nofr call ops l s = some s' → wpList P ops Q l a w
  | [], s, a, w, _, hr, h => by
    simp only [xOps, Option.some.injEq] at h
    subst h
    exact hq a w hr
  | op :: r, s, a, w, hd, hr, h => by
    simp only [List.all_cons, Bool.and_eq_true] at hd
    simp only [xOps] at h
    split at h
    · rename_i s1 hs1
      refine wpList_step fun K hK => ?_
      exact xStep_ok hΘ hc hs1 hr hd.1 fun a' w' h1 => hK a' w' (xOps_ok hΘ hc hq r s1 a' w' hd.2 h1 h)
    · cases h
end
end Go.Proofs.YtpkcbdhjnnnkbaaGreat.Abs

/- A run of code that is computed: drawn regions, loops, calls. -/
set_option linter.unusedVariables false
set_option linter.unusedSimpArgs false
namespace Go.Proofs.YtpkcbdhjnnnkbaaGreat.Abs
open Go

def isW (op : Op) : Bool :=
  match op with
  | .store _ _ _ => true
  | .box _ _ => true
  | .alloc _ => true
  | .makeMap _ _ => true
  | .mapUpdate _ _ _ _ => true
  | .range _ _ => true
  | .next _ _ => true
  | .buildSlice _ n _ => Nat.beq n 0
  | .makeSlice _ _ _ => true
  | .call c => match c.callee with
    | .builtin .len => false
    | .builtin .max => false
    | .builtin .min => false
    | _ => true
  | _ => false
/-- What leaves the objects. -/
def isQ (op : Op) : Bool :=
  match op with
  | .move _ => true
  | .assign _ => true
  | .pick _ _ _ => true
  | .build _ _ => true
  | .load _ _ => true
  | .nilCheck _ => true
  | .binOp _ _ _ _ _ => true
  | .unOp _ _ _ => true
  | .convert _ _ _ => true
  | .makeFunc _ _ _ => true
  | .fieldAddr _ _ _ => true
  | .field _ _ _ => true
  | .indexAddr _ _ _ => true
  | .index _ _ _ => true
  | .extract _ _ => true
  | .buildSlice _ _ _ => true
  | .slice _ _ _ _ _ => true
  | .lookup _ _ _ _ => true
  | .call c => match c.callee with
    | .builtin b => match b with
      | .len => true
      | .max => true
      | .min => true
      | _ => false
    | _ => false
  | _ => false
section
variable {Θ : Tab} {call : Nat → List SV → TM AO → Nat → Option XR}
theorem xq0 {op : Op} {s : XS} {r : SV} {o' : TM AO} {nk' : Nat} (hq : isQ op = true) (h : xOp0 Θ call op s = some (r, o', nk')) (hn : nk' = s.nk) : o' = s.o := by
  have mp : ∀ {α : Type} {x : Option α} {f : α → SV}, x.map (fun v => (f v, s.o, s.nk)) = some (r, o', nk') → o' = s.o := fun h => by
    obtain ⟨v, _, h⟩ := Option.map_eq_some_iff.1 h
    simp only [Prod.mk.injEq] at h
    exact h.2.1.symm
  unfold xOp0 at h
  cases op <;> simp only [isQ, Bool.false_eq_true] at hq <;> simp only at h
  case move => simp only [Option.some.injEq, Prod.mk.injEq] at h; exact h.2.1.symm
  case assign => simp only [Option.some.injEq, Prod.mk.injEq] at h; exact h.2.1.symm
  case pick => split at h <;> first | (simp only [Option.some.injEq, Prod.mk.injEq] at h; exact h.2.1.symm) | cases h
  case build => exact mp h
  case load => exact mp h
  case binOp => exact mp (f := .d) h
  case unOp => exact mp (f := .d) h
  case convert => exact mp h
  case fieldAddr => exact mp h
  case field => exact mp h
  case indexAddr => exact mp h
  case lookup => cases h
  case nilCheck =>
    split at h
    · split at h
      · simp only [Option.some.injEq, Prod.mk.injEq] at h; exact h.2.1.symm
      · cases h
    all_goals first | (simp only [Option.some.injEq, Prod.mk.injEq] at h; exact h.2.1.symm) | cases h
  case makeFunc => split at h <;> first | (simp only [Option.some.injEq, Prod.mk.injEq] at h; exact h.2.1.symm) | cases h
  case index =>
    split at h
    · cases h
    · split at h
      · split at h <;> first | (simp only [Option.some.injEq, Prod.mk.injEq] at h; exact h.2.1.symm) | cases h
      · cases h
  case extract =>
    split at h
    · exact mp h
    · cases h
  case buildSlice =>
    unfold xbs at h
    repeat' (split at h)
    all_goals first | cases h; done | (simp only [Option.some.injEq, Prod.mk.injEq] at h; first | exact h.2.1.symm | omega)
  case slice =>
    unfold xsl at h
    repeat' (split at h)
    all_goals first | cases h; done | (simp only [Option.some.injEq, Prod.mk.injEq] at h; first | exact h.2.1.symm | omega)
  case call c =>
    obtain ⟨callee, asx, ts⟩ := c
    cases callee with
    | builtin b =>
      simp only at h hq
      split at h
      · exact mp h
      · simp at hq
      · exact mp (f := .d) h
      · exact mp (f := .d) h
      · cases h
    | _ => simp at hq

theorem nW0_q {op : Op} {ev : Operand → SV} {o : Nat → Option AO} {nk : Nat} (hq : isQ op = true) : nW0 Θ op ev o nk = none := by
  cases op <;> simp only [isQ, Bool.false_eq_true] at hq <;> simp only [nW0]
  case call c =>
    obtain ⟨callee, asx, ts⟩ := c
    cases callee with
    | builtin b => cases b <;> first | (simp at hq; done) | rfl
    | _ => simp at hq
theorem nWF_q {op : Op} {ev : Operand → SV} {o : Nat → Option AO} {nk : Nat} (hq : isQ op = true) : ∀ l : List Operand, nWF Θ op ev o nk l = none
  | [] => rfl
  | x :: l => by
    have ih := nWF_q (ev := ev) (o := o) (nk := nk) hq l
    simp only [nWF]
    split
    · split
      · rw [nW0_q hq]; exact ih
      · exact ih
    · exact ih
theorem xq {op : Op} {s : XS} {r : SV} {o' : TM AO} {nk' : Nat} (hq : isQ op = true) (h : xOp Θ call op s = some (r, o', nk')) (hn : nk' = s.nk) : o' = s.o := by
  unfold xOp at h
  split at h
  · simp only [Option.some.injEq, Prod.mk.injEq] at h
    exact h.2.1.symm
  · rw [nW0_q hq] at h
    simp only at h
    split at h
    · rename_i r0 h0
      simp only [Option.some.injEq] at h
      subst h
      exact xq0 hq h0 hn
    · rw [nWF_q hq] at h
      cases h
/-- One operation, heeding its guard. -/
def xG (Θ : Tab) (call : Nat → List SV → TM AO → Nat → Option XR) (ops : Array Oper) (op : Oper) (s : XS) : Option XR :=
  match xGuard ops s.sl op.guard with
  | none => none
  | some false => some (.tup [], s.o, s.nk)
  | some true => xOp Θ call op.op s

/-- All that is done, one behind the other: what is yielded, and the objects behind every change. -/
def xDr (Θ : Tab) (call : Nat → List SV → TM AO → Nat → Option XR) (ops : Array Oper) : List Oper → List Kd → XS → Option (List SV × List (TM AO × Nat) × TM SV)
  | [], [], s => some ([], [], s.sl)
  | op :: r, .w _ :: ks, s => match xG Θ call ops op s with
    | none => none
    | some (v, o', nk') => match xDr Θ call ops r ks ⟨putD s.sl op.dst v, o', nk'⟩ with
      | none => none
      | some (vs, phs, sl) => some (v :: vs, (o', nk') :: phs, sl)
  | op :: r, .q _ _ :: ks, s => match xG Θ call ops op s with
    | none => none
    | some (v, _, _) => match xDr Θ call ops r ks ⟨putD s.sl op.dst v, s.o, s.nk⟩ with
      | none => none
      | some (vs, phs, sl) => some (v :: vs, phs, sl)
  | _, _, _ => none
def allX (n : Nat) (p : Nat → Bool) (lo : Nat) : Bool :=
  match n with
  | 0 => p lo
  | n + 1 => p lo && allX n p (lo + 1)
/-- What only looks yields the same whenever it is its turn. -/
def xChk (Θ : Tab) (call : Nat → List SV → TM AO → Nat → Option XR) (ops : Array Oper) (L : List (TM AO × Nat)) : List Oper → List Kd → List SV → TM SV → Nat → Bool
  | [], [], [], _, _ => true
  | op :: r, .w j :: ks, v :: vs, sl, p => decide (j = p) && xChk Θ call ops L r ks vs (putD sl op.dst v) (p + 1)
  | op :: r, .q lo hi :: ks, v :: vs, sl, p => isQ op.op && (allX (hi - lo) (fun q => match L[q]? with
      | none => false
      | some (o, nk) => match xG Θ call ops op ⟨sl, o, nk⟩ with
        | none => false
        | some (v2, _, nk2) => SV.eqb v v2 && decide (nk2 = nk)) lo) && xChk Θ call ops L r ks vs (putD sl op.dst v) p
  | _, _, _, _, _ => false
theorem xG_q {ops : Array Oper} {op : Oper} {s : XS} {v : SV} {o' : TM AO} {nk' : Nat} {P : Program} (hc : CallOk P call) (hq : isQ op.op = true) (h : xG Θ call ops op s = some (v, o', nk')) (hn : nk' = s.nk) : gOp P Θ ops op s.st v := by
  unfold xG at h
  split at h
  · cases h
  · rename_i hg
    have hg2 := xGuard_ok hg
    simp only [Option.some.injEq, Prod.mk.injEq] at h
    obtain ⟨rfl, _, _⟩ := h
    unfold gOp
    unfold gdc at hg2
    split at hg2
    · cases hg2
    · rename_i j want hgu
      rw [hgu]
      exact ⟨false, .any, hg2, fun e => (by cases e), (cnd_F _).symm⟩
  · rename_i hg
    have hg2 := xGuard_ok hg
    have ho := xq hq h hn
    subst ho; subst hn
    have hv : pOp P Θ op.op s.st v := xOp_ok hc h ⟨rfl, rfl, rfl⟩
    unfold gOp
    unfold gdc at hg2
    split at hg2
    · rename_i hgu; rw [hgu]; exact hv
    · rename_i j want hgu
      rw [hgu]
      exact ⟨true, v, hg2, fun _ => hv, (cnd_T v).symm⟩
theorem allX_ok {p : Nat → Bool} {R : Nat → Prop} (h : ∀ q, p q = true → R q) : ∀ (n lo : Nat), allX n p lo = true → allP n R lo
  | 0, lo, h1 => h lo h1
  | n + 1, lo, h1 => by
    simp only [allX, Bool.and_eq_true] at h1
    exact ⟨h lo h1.1, allX_ok h n (lo + 1) h1.2⟩
def phx (L : List (TM AO × Nat)) : Nat → Ob := fun p => match L[p]? with
  | some (o, nk) => (o.get, nk)
  | none => (fun _ => none, 0)
theorem xDr_ok {P : Program} (hc : CallOk P call) {ops : Array Oper} {K : St → Prop} {L : List (TM AO × Nat)} {m : Nat} {fin : XS} (hK : K fin.st) (hm : L[m]? = some (fin.o, fin.nk)) :
    ∀ (l : List Oper) (ks : List Kd) (s : XS) (vs : List SV) (phs pre : List (TM AO × Nat)) (p : Nat), xDr Θ call ops l ks s = some (vs, phs, fin.sl) → pre.length = p → L = pre ++ (s.o, s.nk) :: phs →
      m = p + phs.length → xChk Θ call ops L l ks vs s.sl p = true → eOps P Θ ops K (phx L) m l ks s.st.sl
  | [], [], s, vs, phs, pre, p, h, hp, hL, hmp, hk => by
    simp only [xDr, Option.some.injEq, Prod.mk.injEq] at h
    obtain ⟨rfl, rfl, h3⟩ := h
    show K ⟨s.st.sl, (phx L m).1, (phx L m).2⟩
    simp only [phx, hm]
    have : (⟨s.st.sl, fin.o.get, fin.nk⟩ : St) = fin.st := by simp only [XS.st, h3]
    rw [this]; exact hK
  | [], k :: ks, s, vs, phs, pre, p, h, hp, hL, hmp, hk => by simp [xDr] at h
  | op :: r, [], s, vs, phs, pre, p, h, hp, hL, hmp, hk => by simp [xDr] at h
  | op :: r, .w j :: ks, s, vs, phs, pre, p, h, hp, hL, hmp, hk => by
    simp only [xDr] at h
    split at h
    · cases h
    · rename_i v o' nk' hx
      split at h
      · cases h
      · rename_i vs' phs' sl' hx'
        simp only [Option.some.injEq, Prod.mk.injEq] at h
        obtain ⟨rfl, rfl, rfl⟩ := h
        simp only [xChk, Bool.and_eq_true, decide_eq_true_eq] at hk
        obtain ⟨rfl, hk⟩ := hk
        have hLp : L[j]? = some (s.o, s.nk) := by rw [hL, List.getElem?_append_right (by omega), hp]; simp
        have hLp1 : L[j + 1]? = some (o', nk') := by rw [hL, List.getElem?_append_right (by omega), hp]; simp
        have ih := xDr_ok hc hK hm r ks ⟨putD s.sl op.dst v, o', nk'⟩ vs' phs' (pre ++ [(s.o, s.nk)]) (j + 1) hx' (by simp [hp]) (by rw [hL]; simp) (by simp only [List.length_cons] at hmp; omega) hk
        refine ⟨v, ?_, by rw [put_st] at ih; exact ih⟩
        simp only [eOp, phx, hLp, hLp1]
        unfold xG at hx
        split at hx
        · cases hx
        · rename_i hg
          simp only [Option.some.injEq, Prod.mk.injEq] at hx
          obtain ⟨rfl, rfl, rfl⟩ := hx
          exact ⟨false, .any, xGuard_ok hg, fun e => (by cases e), fun _ => rfl, (cnd_F _).symm⟩
        · rename_i hg
          exact ⟨true, v, xGuard_ok hg, fun _ => xOp_ok hc hx ⟨rfl, rfl, rfl⟩, fun e => (by cases e), (cnd_T v).symm⟩
  | op :: r, .q lo hi :: ks, s, vs, phs, pre, p, h, hp, hL, hmp, hk => by
    simp only [xDr] at h
    split at h
    · cases h
    · rename_i v o' nk' hx
      split at h
      · cases h
      · rename_i vs' phs' sl' hx'
        simp only [Option.some.injEq, Prod.mk.injEq] at h
        obtain ⟨rfl, rfl, rfl⟩ := h
        simp only [xChk, Bool.and_eq_true] at hk
        obtain ⟨⟨hq, hall⟩, hk⟩ := hk
        have ih := xDr_ok hc hK hm r ks ⟨putD s.sl op.dst v, s.o, s.nk⟩ vs' phs' pre p hx' hp hL hmp hk
        refine ⟨v, ?_, by rw [put_st] at ih; exact ih⟩
        simp only [eOp]
        refine allX_ok (fun q hqq => ?_) _ _ hall
        split at hqq
        · cases hqq
        · rename_i o2 nk2 hLq
          split at hqq
          · cases hqq
          · rename_i v2 o3 nk3 hg
            simp only [Bool.and_eq_true, decide_eq_true_eq] at hqq
            have hv := SV.eqb_ok hqq.1
            subst hv
            have := xG_q (P := P) hc hq hg hqq.2
            simp only [phx, hLq]
            exact this
end

def takeN (p : Nat → Bool) : List Nat → Nat
  | [] => 0
  | x :: r => bif p x then takeN p r + 1 else 0
def kdGo (an : List (List Nat)) (ws : List Nat) : List Oper → Nat → Nat → List Kd
  | [], _, _ => []
  | op :: r, i, j => bif isW op.op then .w j :: kdGo an ws r (i + 1) (j + 1)
    else .q (takeN (fun w => (an.getD i []).contains w) ws) (takeN (fun w => !(an.getD w []).contains i) ws) :: kdGo an ws r (i + 1) j
def wrGo : List Oper → Nat → List Nat
  | [], _ => []
  | op :: r, i => bif isW op.op then i :: wrGo r (i + 1) else wrGo r (i + 1)
section
variable (Θ : Tab) (nofr : Nat → Bool) (call : Nat → List SV → TM AO → Nat → Option XR)
def xDraw (ops : Array Oper) (s : XS) : Option XS :=
  match ops.toList with
  | l => match wrGo l 0 with
    | wr => match kdGo (ancs l l.length) wr l 0 0 with
      | kd => bif flowOk ops && phOk l kd wr then match xDr Θ call ops l kd s with
          | none => none
          | some (vs, phs, sl) => match (s.o, s.nk) :: phs with
            | L => bif xChk Θ call ops L l kd vs s.sl 0 then match L[wr.length]? with
                | none => none
                | some (o, nk) => bif Nat.beq wr.length phs.length then some ⟨sl, o, nk⟩ else none
              else none
        else none
theorem xDraw_ok {P : Program} {n k0 : Nat} {Q : Exit → St → Prop} (hΘ : TabOk P Θ) (hm : P.follows .mixedOrders = true) (hc : CallOk P call) {id : Nat} {ops : Array Oper} {s s' : XS} (hd : (ops.toList.all fun o => dstOk n o.dst) = true) (h : xDraw Θ call ops s = some s') (hQ : Q .normal s'.st) :
    WP P n k0 (.region id ops true) s.st Q := by
  unfold xDraw at h
  simp only at h
  cases hb : flowOk ops && phOk ops.toList (kdGo (ancs ops.toList ops.toList.length) (wrGo ops.toList 0) ops.toList 0 0) (wrGo ops.toList 0) with
  | false => rw [hb] at h; cases h
  | true =>
    rw [hb] at h
    simp only [cond_true] at h
    simp only [Bool.and_eq_true] at hb
    split at h
    · cases h
    · rename_i vs phs sl hx
      cases hk : xChk Θ call ops ((s.o, s.nk) :: phs) ops.toList (kdGo (ancs ops.toList ops.toList.length) (wrGo ops.toList 0) ops.toList 0 0) vs s.sl 0 with
      | false => rw [hk] at h; cases h
      | true =>
        rw [hk] at h
        simp only [cond_true] at h
        split at h
        · cases h
        · rename_i o nk hL
          cases he : Nat.beq (wrGo ops.toList 0).length phs.length with
          | false => rw [he] at h; cases h
          | true =>
            rw [he] at h
            simp only [cond_true, Option.some.injEq] at h
            subst h
            have hlen := Nat.eq_of_beq_eq_true he
            have := WP.drawnW (P := P) (Θ := Θ) (n := n) (k0 := k0) (Q := Q) hΘ hm (sl := s.st.sl) (id := id) (ops := ops) _ _ (phx ((s.o, s.nk) :: phs)) hd hb.1 hb.2
              (xDr_ok hc (fin := ⟨sl, o, nk⟩) hQ hL _ _ s vs phs [] 0 hx rfl rfl (by omega) hk)
            exact this
end
end Go.Proofs.YtpkcbdhjnnnkbaaGreat.Abs

/- Pending allocs: a block that is there, and that nothing is told of yet, becomes an object; an object that is told of in one slot alone becomes such a block. -/
set_option linter.unusedVariables false
set_option linter.unusedSimpArgs false
namespace Go.Proofs.YtpkcbdhjnnnkbaaGreat.Abs
open Go

/-- A block of cells that nothing is told of. -/
structure Pend (w0 : World) (w : World) (S : Nat → Prop) (γ : Nat → Value) (o : Nat → Option AO) (g : Nat) (l : List D) : Prop where
  mk ::
  cells : ∃ arr ty, w.heap[g]? = some (.cells arr ty (0, 0)) ∧ arr.size = l.length ∧ ∀ (i : Nat) (c : D) (u : Value), l[i]? = some c → arr[i]? = some u → Rd w S c u
  new : w0.heap.size ≤ g
  lt : g < w.heap.size
  ns : ¬ S g
  nl : ¬ Live γ o g

theorem Sto.adopt {w : World} {S : Nat → Prop} {γ : Nat → Value} {o : Nat → Option AO} {nk : Nat} (h : Sto w S γ o nk) {w0 : World} {g : Nat} {l : List D} (hp : Pend w0 w S γ o g l) :
    Sto w S (upd γ nk (.pointer (some ⟨g, 0, none⟩))) (upd o nk (some (.box (l.map .d)))) (nk + 1) := by
  obtain ⟨⟨arr, ty, hg0, hsz, hr⟩, hw0, hlt, hns, hnl⟩ := hp
  have hne : ∀ t x, o t = some x → t ≠ nk := fun t x hx e => by have := h.o_lt t x hx; omega
  have hkeys : ∀ t x, t < nk → upd o nk (some (.box (l.map .d))) t = some x → ∃ y, o t = some y ∧ AO.kin y x ∧ upd γ nk (.pointer (some ⟨g, 0, none⟩)) t = γ t := by
    intro t x ht hx
    rw [upd_ne _ _ (by omega)] at hx
    exact ⟨x, hx, AO.kin_refl x, upd_ne _ _ (by omega)⟩
  have hlive : ∀ t x g', upd o nk (some (.box (l.map .d))) t = some x → blk (upd γ nk (.pointer (some ⟨g, 0, none⟩)) t) = some g' → (t = nk ∧ g' = g) ∨ (t ≠ nk ∧ o t = some x ∧ blk (γ t) = some g') := by
    intro t x g' hx hg
    by_cases ht : t = nk
    · subst ht
      rw [upd_same] at hg
      simp [blk] at hg
      exact .inl ⟨rfl, hg.symm⟩
    · rw [upd_ne _ _ ht] at hx hg
      exact .inr ⟨ht, hx, hg⟩
  refine ⟨h.s_lt, ?_, ?_, ?_, ?_, ?_, ?_⟩
  · intro t x hx
    by_cases ht : t = nk
    · omega
    · rw [upd_ne _ _ ht] at hx
      have := h.o_lt t x hx; omega
  · intro t cs' hc
    by_cases ht : t = nk
    · subst ht
      rw [upd_same] at hc
      simp at hc
      subst hc
      rw [upd_same]
      refine ⟨⟨g, arr, ty, rfl, hg0, by simp [hsz], fun i c u h1 h2 => ?_⟩, lts_of fun i c hc => ?_⟩
      · rw [List.getElem?_map] at h1
        obtain ⟨d, hd, rfl⟩ := Option.map_eq_some_iff.1 h1
        exact .d _ _ (hr i d u hd h2)
      · rw [List.getElem?_map] at hc
        obtain ⟨d, hd, rfl⟩ := Option.map_eq_some_iff.1 hc
        trivial
    · rw [upd_ne _ _ ht] at hc
      obtain ⟨⟨g', arr', ty', h4, h5, h6, h7⟩, hl'⟩ := h.box t cs' hc
      rw [upd_ne _ _ ht]
      exact ⟨⟨g', arr', ty', h4, h5, h6, fun i c u h8 h9 => (h7 i c u h8 h9).move (fun _ h => h) (fun _ _ => rfl) hkeys (lts_get hl' i c h8)⟩, SV.lts_mono (Nat.le_succ _) hl'⟩
  · intro t e z xs hx
    by_cases ht : t = nk
    · subst ht; rw [upd_same] at hx; cases hx
    · rw [upd_ne _ _ ht] at hx
      rw [upd_ne _ _ ht]
      exact h.row t e z xs hx
  · intro t ob hx
    by_cases ht : t = nk
    · subst ht; rw [upd_same] at hx; cases hx
    · rw [upd_ne _ _ ht] at hx
      rw [upd_ne _ _ ht]
      exact h.raw t ob hx
  · intro t x g' hx hg
    rcases hlive t x g' hx hg with ⟨_, rfl⟩ | ⟨_, h1, h2⟩
    · exact ⟨hns, hlt⟩
    · exact h.away t x g' h1 h2
  · intro t t' x x' g' hne' hx hx' hg hg'
    rcases hlive t x g' hx hg with ⟨h1, h2⟩ | ⟨h1, h2, h3⟩ <;> rcases hlive t' x' g' hx' hg' with ⟨h1', h2'⟩ | ⟨h1', h2', h3'⟩
    · exact hne' (h1.trans h1'.symm)
    · subst h2; exact hnl ⟨t', x', h2', h3'⟩
    · subst h2'; exact hnl ⟨t, x, h2, h3⟩
    · exact h.apart t t' x x' g' hne' h2 h2' h3 h3'
/-- It stays pending through a step. -/
theorem Pend.tr {w0 w w' : World} {S S' : Nat → Prop} {γ γ' : Nat → Value} {o o' : Nat → Option AO} {nk nk' g : Nat} {l : List D} (hs : Sto w S γ o nk) (ht : Tr w S γ o nk w' S' γ' o' nk') (hp : Pend w0 w S γ o g l) : Pend w0 w' S' γ' o' g l := by
  obtain ⟨⟨arr, ty, hg0, hsz, hr⟩, hw0, hlt, hns, hnl⟩ := hp
  refine ⟨⟨arr, ty, by rw [ht.kept g hlt hnl]; exact hg0, hsz, fun i c u h1 h2 => ht.rd hs (hr i c u h1 h2)⟩, hw0, Nat.lt_of_lt_of_le hlt ht.size, fun h => ?_, fun h => ?_⟩
  · rcases ht.s_new g h with h1 | h1 | h1
    · exact hns h1
    · omega
    · exact hnl h1
  · rcases ht.live g h with h1 | h1
    · omega
    · exact hnl h1
/-- What is told of the frame once the block in slot t is an object. -/
theorem Rl.adopt {E : Ent} {s : St} {a : Act} {w : World} {S : Nat → Prop} {γ : Nat → Value} (hr : Rl E s a w S γ) {g t : Nat} {l : List D} (hp : Pend E.w w S γ s.o g l) (ht : a.tmps.getD t undef = .pointer (some ⟨g, 0, none⟩)) :
    Rl E { sl := upd s.sl t (.loc s.nk 0), o := upd s.o s.nk (some (.box (l.map .d))), nk := s.nk + 1 } a w S (upd γ s.nk (.pointer (some ⟨g, 0, none⟩))) := by
  have hsto := hr.sto.adopt hp
  have hkeys : ∀ u x, u < s.nk → upd s.o s.nk (some (.box (l.map .d))) u = some x → ∃ y, s.o u = some y ∧ AO.kin y x ∧ upd γ s.nk (.pointer (some ⟨g, 0, none⟩)) u = γ u := by
    intro u x hu hx
    rw [upd_ne _ _ (by omega)] at hx
    exact ⟨x, hx, AO.kin_refl x, upd_ne _ _ (by omega)⟩
  have hstep : Tr E.w E.S E.γ E.o E.nk w S (upd γ s.nk (.pointer (some ⟨g, 0, none⟩))) (upd s.o s.nk (some (.box (l.map .d)))) (s.nk + 1) := by
    refine ⟨hr.tr.os, hr.tr.tape, hr.tr.output, hr.tr.size, Nat.le_succ_of_le hr.tr.nks, hr.tr.kept, hr.tr.s, hr.tr.s_new, ?_, ?_⟩
    · rintro g' ⟨u, x, hx, hg⟩
      by_cases hu : u = s.nk
      · subst hu
        rw [upd_same] at hg
        simp [blk] at hg
        subst hg
        exact .inl hp.new
      · rw [upd_ne _ _ hu] at hx hg
        exact hr.tr.live g' ⟨u, x, hx, hg⟩
    · intro u x hu hx
      have hlt : u < s.nk := Nat.lt_of_lt_of_le hu hr.tr.nks
      obtain ⟨y, hy, hk, hg⟩ := hkeys u x hlt hx
      obtain ⟨z, hz, hk', hg'⟩ := hr.tr.keys u y hu hy
      exact ⟨z, hz, AO.kin_trans hk' hk, hg.trans hg'⟩
  refine ⟨hsto, hstep, fun u => ?_, fun u => ?_, hr.df, hr.nn⟩
  · show SR w S _ _ (upd s.sl t (.loc s.nk 0) u) _
    by_cases hu : u = t
    · subst hu
      rw [upd_same, ht]
      exact .loc _ _ _ fun cs _ => ⟨g, upd_same _ _ _, rfl⟩
    · rw [upd_ne _ _ hu]
      exact (hr.sl u).move (fun _ h => h) (fun _ _ => rfl) hkeys (hr.slt u)
  · show (upd s.sl t (.loc s.nk 0) u).lt (s.nk + 1)
    by_cases hu : u = t
    · subst hu; rw [upd_same]; exact Nat.lt_succ_self _
    · rw [upd_ne _ _ hu]; exact SV.lt_mono (Nat.le_succ _) (hr.slt u)
section
variable {P : Program} {Θ : Tab}
/-- An alloc of which nothing is told but that its block is there. -/
theorem alloc_pend (hΘ : TabOk P Θ) {E : Ent} {s : St} {a : Act} {w : World} {S : Nat → Prop} {γ : Nat → Value} {o : Oper} {e t : Nat} {i : TI} {l : List D} {next : Act → World → Prop} {Q : Exit → Act → World → Prop} (hr : Rl E s a w S γ) (ho : o.op = .alloc e) (hd : o.dst = some t) (htn : t < E.n) (hi : Θ e = some i) (hz : i.z = some l)
    (hn : ∀ u w' S' γ' g, Rl E { sl := upd s.sl t .any, o := s.o, nk := s.nk } (a.put (some t) u) w' S' γ' → u = .pointer (some ⟨g, 0, none⟩) → w.heap.size ≤ g → Pend E.w w' S' γ' s.o g l → Tr w S γ s.o s.nk w' S' γ' s.o s.nk → next (a.put (some t) u) w') : o.wp P a w next Q := by
  have hv : vOp P Θ o.op s fun v o' nk' => v = .loc s.nk 0 ∧ o' = upd s.o s.nk (some (.box (l.map .d))) ∧ nk' = s.nk + 1 := by
    rw [ho]; exact .inl ⟨i, l, hi, hz, rfl, rfl, rfl⟩
  refine upon_of_eff (vOp_sound hΘ hr.fr hv) ?_
  rintro u w' ⟨v, o', nk', S', γ', ⟨rfl, rfl, rfl⟩, h1, h2, h3, h4⟩
  have hob : upd s.o s.nk (some (.box (l.map .d))) s.nk = some (.box (l.map .d)) := upd_same _ _ _
  obtain ⟨⟨g, arr, ty, hg1, hg2, hg3, hg4⟩, _⟩ := h1.box s.nk _ hob
  have hold : ∀ t x, s.o t = some x → t < s.nk ∧ upd s.o s.nk (some (.box (l.map .d))) t = some x := fun t x hx => by
    have := hr.sto.o_lt t x hx
    exact ⟨this, by rw [upd_ne _ _ (by omega)]; exact hx⟩
  have hbg : blk (γ' s.nk) = some g := by rw [hg1]; rfl
  have hnl : ¬ Live γ' s.o g := by
    rintro ⟨t, x, hx, hb⟩
    obtain ⟨hlt, hx'⟩ := hold t x hx
    exact h1.apart t s.nk x _ g (by omega) hx' hob hb hbg
  have hnew : w.heap.size ≤ g := by
    rcases h2.live g ⟨s.nk, _, hob, hbg⟩ with h | ⟨t, x, hx, hb⟩
    · exact h
    · obtain ⟨hlt, hx'⟩ := hold t x hx
      obtain ⟨_, _, _, hge⟩ := h2.keys t x hlt hx'
      exact absurd ⟨t, x, hx, by rw [hge]; exact hb⟩ hnl
  have hwk : Wko s.nk id (upd s.o s.nk (some (.box (l.map .d)))) s.o s.nk := by
    refine ⟨Nat.le_refl _, fun t x hx => ?_, fun t t' x x' _ _ h => h, fun _ _ _ _ => rfl⟩
    obtain ⟨hlt, hx'⟩ := hold t x hx
    refine ⟨hlt, by rw [AO.ren_id]; exact hx', ?_⟩
    cases x with
    | box cs => exact (hr.sto.box t cs hx).2
    | _ => trivial
  have hs' : Sto w' S' γ' s.o s.nk := hwk.sto h1
  have ht' : Tr w S γ s.o s.nk w' S' γ' s.o s.nk := hwk.tr h2
  have hu : u = .pointer (some ⟨g, 0, none⟩) := by
    cases h3 with
    | loc _ _ _ hv =>
      obtain ⟨g', k1, k2⟩ := hv _ hob
      rw [hg1] at k1
      simp at k1
      rw [k2, k1]
  have hp := hr.put (d := some t) (by simpa [dstOk] using htn) hs' ht' (.any u) trivial
  rw [hd]
  refine hn u w' S' γ' g hp hu hnew ⟨⟨arr, ty, hg2, by simpa using hg3, fun i c x hc hx => ?_⟩, Nat.le_trans hr.tr.size hnew, (h1.away s.nk _ g hob hbg).2, (h1.away s.nk _ g hob hbg).1, hnl⟩ ht'
  have := hg4 i (.d c) x (by rw [List.getElem?_map, hc]; rfl) hx
  cases this with
  | d _ _ h => exact h
theorem op_stepL {E : Ent} {s : St} {a : Act} {w : World} {S : Nat → Prop} {γ : Nat → Value} (hΘ : TabOk P Θ) {o : Oper} {next : Act → World → Prop} {Q : Exit → Act → World → Prop} {K : SV → (Nat → Option AO) → Nat → Prop} (hr : Rl E s a w S γ) (hd : dstOk E.n o.dst = true) (h : vOp P Θ o.op s K)
    (hn : ∀ v o' nk' u w' S' γ', K v o' nk' → Rl E { sl := pt s.sl o.dst v, o := o', nk := nk' } (a.put o.dst u) w' S' γ' → Tr w S γ s.o s.nk w' S' γ' o' nk' → next (a.put o.dst u) w') : o.wp P a w next Q := by
  refine upon_of_eff (vOp_sound hΘ hr.fr h) ?_
  rintro u w' ⟨v, o', nk', S', γ', hK, h1, h2, h3, h4⟩
  exact hn v o' nk' u w' S' γ' hK (hr.put hd h1 h2 h3 h4) h2
theorem g_stepL {E : Ent} {s : St} {a : Act} {w : World} {S : Nat → Prop} {γ : Nat → Value} (hΘ : TabOk P Θ) {ops : Array Oper} {o : Oper} {next : Act → World → Prop} {Q : Exit → Act → World → Prop} {v : SV} (hr : Rl E s a w S γ) (hd : dstOk E.n o.dst = true)
    (h : gOp P Θ ops o s v) (hn : ∀ u w' S' γ', Rl E { sl := pt s.sl o.dst v, o := s.o, nk := s.nk } (a.put o.dst u) w' S' γ' → Tr w S γ s.o s.nk w' S' γ' s.o s.nk → next (a.put o.dst u) w') :
    if Region.wanted o (yielded ops a.tmps) then o.wp P a w next Q else next (a.put o.dst undef) w := by
  unfold gOp at h
  unfold Region.wanted
  split at h
  · rename_i hg
    rw [hg]
    simp only [if_true]
    refine op_stepL hΘ hr hd h ?_
    rintro v' o' nk' u w' S' γ' ⟨rfl, rfl, rfl⟩ hr' ht
    exact hn u w' S' γ' hr' ht
  · rename_i j want hg
    rw [hg]
    obtain ⟨c, v', h1, h2, rfl⟩ := h
    have hy := guard_yield ⟨S, γ, hr⟩ h1
    simp only [hy]
    cases c with
    | true =>
      rw [if_pos rfl]
      refine op_stepL hΘ hr hd (h2 rfl) ?_
      rintro v' o' nk' u w' S' γ' ⟨rfl, rfl, rfl⟩ hr' ht
      exact hn u w' S' γ' (by rw [cnd_T]; exact hr') ht
    | false =>
      rw [if_neg (by simp)]
      exact hn undef w S γ (by rw [cnd_F]; exact hr.put hd hr.sto (Tr.refl _ _ _ _ _) (.tup [] [] rfl (by simp)) trivial) (Tr.refl _ _ _ _ _)
/-- What is pending in a slot. -/
def PendAt (E : Ent) (a : Act) (w : World) (S : Nat → Prop) (γ : Nat → Value) (o : Nat → Option AO) (g t : Nat) (l : List D) : Prop := a.tmps.getD t undef = .pointer (some ⟨g, 0, none⟩) ∧ Pend E.w w S γ o g l
theorem put_get (a : Act) (d : Option Nat) (u : Value) {t : Nat} (h : d ≠ some t) : (a.put d u).tmps.getD t undef = a.tmps.getD t undef := by
  cases d with
  | none => rfl
  | some d =>
    have hne : d ≠ t := fun e => h (by rw [e])
    simp [Act.put, Array.getElem?_setIfInBounds_ne hne]
theorem PendAt.step {E : Ent} {a : Act} {w w' : World} {S S' : Nat → Prop} {γ γ' : Nat → Value} {o o' : Nat → Option AO} {nk nk' g t : Nat} {l : List D} {d : Option Nat} {u : Value} (hs : Sto w S γ o nk) (ht : Tr w S γ o nk w' S' γ' o' nk') (hd : d ≠ some t) (h : PendAt E a w S γ o g t l) :
    PendAt E (a.put d u) w' S' γ' o' g t l := ⟨by rw [put_get a d u hd]; exact h.1, h.2.tr hs ht⟩
/-- Another block than the one that becomes an object stays pending. -/
theorem PendAt.adopt {E : Ent} {a : Act} {w : World} {S : Nat → Prop} {γ : Nat → Value} {o : Nat → Option AO} {nk g g2 t : Nat} {l l2 : List D} (h : PendAt E a w S γ o g t l) (hlt : ∀ t x, o t = some x → t < nk) (hne : g ≠ g2) :
    PendAt E a w S (upd γ nk (.pointer (some ⟨g2, 0, none⟩))) (upd o nk (some (.box (l2.map .d)))) g t l := by
  refine ⟨h.1, h.2.cells, h.2.new, h.2.lt, h.2.ns, ?_⟩
  rintro ⟨u, x, hx, hb⟩
  by_cases hu : u = nk
  · subst hu
    rw [upd_same] at hb
    simp [blk] at hb
    exact hne hb.symm
  · rw [upd_ne _ _ hu] at hx hb
    exact h.2.nl ⟨u, x, hx, hb⟩
end
/-- One more operation listed. -/
theorem slL_set {sl : Nat → SV} {prs : List (Option Nat × SV)} {lm : Array Bool} {i : Nat} {d : Option Nat} {v : SV} (huniq : Uniq prs) (hpv : prs[i]? = some (d, v)) (hi : i < lm.size) : slL sl prs (lm.setIfInBounds i true) = pt (slL sl prs lm) d v := by
  have hli : (lm.setIfInBounds i true).getD i false = true := by simp [hi]
  have hlf : ∀ j, j ≠ i → (lm.setIfInBounds i true).getD j false = lm.getD j false := fun j hj => getD_set_ne false (Ne.symm hj)
  funext u
  by_cases hex : ∃ (j : Nat) (x : SV), prs[j]? = some (some u, x)
  · obtain ⟨j, x, hj⟩ := hex
    by_cases hji : j = i
    · subst hji
      rw [hj] at hpv
      simp only [Option.some.injEq, Prod.mk.injEq] at hpv
      obtain ⟨h1, h2⟩ := hpv
      rw [slL_hit huniq hj hli, ← h1, h2]
      exact (upd_same _ _ _).symm
    · have hne : d ≠ some u := fun e => hji (huniq j i u x v hj (by rw [hpv, e]))
      have hp : pt (slL sl prs lm) d v u = slL sl prs lm u := by
        cases hod : d with
        | none => rfl
        | some d => exact upd_ne _ _ fun e => hne (by rw [hod, e])
      rw [hp]
      by_cases hl : lm.getD j false = true
      · rw [slL_hit huniq hj hl, slL_hit huniq hj (by rw [hlf j hji]; exact hl)]
      · rw [slL_miss, slL_miss]
        · intro k y hk hlk
          have := huniq k j u y x hk hj
          subst this
          exact hl hlk
        · intro k y hk hlk
          have := huniq k j u y x hk hj
          subst this
          rw [hlf k hji] at hlk
          exact hl hlk
  · have hne : d ≠ some u := fun e => hex ⟨i, v, by rw [hpv, e]⟩
    have hp : pt (slL sl prs lm) d v u = slL sl prs lm u := by
      cases hod : d with
      | none => rfl
      | some d => exact upd_ne _ _ fun e => hne (by rw [hod, e])
    rw [hp, slL_miss, slL_miss]
    · exact fun k y hk _ => hex ⟨k, y, hk⟩
    · exact fun k y hk _ => hex ⟨k, y, hk⟩
end Go.Proofs.YtpkcbdhjnnnkbaaGreat.Abs

/- Drawn regions with allocs that no edge orders. -/
set_option linter.unusedVariables false
set_option linter.unusedSimpArgs false
namespace Go.Proofs.YtpkcbdhjnnnkbaaGreat.Abs
open Go

/-- An alloc that waits: its operation, its slot, the number of the writer that needs it, its cells. -/
structure Al where
  i : Nat
  t : Nat
  j : Nat
  l : List D
inductive KdP where
  | q (lo hi : Nat)
  | w (j : Nat)
  | a (j k : Nat)
def lsAt (al : List Al) (j : Nat) : List Al := al.filter fun b => decide (b.j = j)
def matO : List Al → Ob → Ob
  | [], x => x
  | b :: r, x => matO r (upd x.1 x.2 (some (.box (b.l.map .d))), x.2 + 1)
def matS : List Al → (Nat → SV) → Nat → Nat → SV
  | [], sl, _ => sl
  | b :: r, sl, nk => matS r (upd sl b.t (.loc nk 0)) (nk + 1)
def setAll : List Al → Array Bool → Array Bool
  | [], lm => lm
  | b :: r, lm => setAll r (lm.setIfInBounds b.i true)
theorem setAll_size : ∀ (r : List Al) (lm : Array Bool), (setAll r lm).size = lm.size
  | [], lm => rfl
  | b :: r, lm => by rw [setAll, setAll_size r]; simp
theorem setAll_get : ∀ (r : List Al) (lm : Array Bool) (x : Nat), (∀ b ∈ r, b.i < lm.size) → ((setAll r lm).getD x false = true ↔ lm.getD x false = true ∨ ∃ b ∈ r, b.i = x)
  | [], lm, x, _ => by simp [setAll]
  | b :: r, lm, x, h => by
    rw [setAll, setAll_get r _ x (fun c hc => by simpa using h c (by simp [hc]))]
    by_cases hx : b.i = x
    · subst hx
      have : b.i < lm.size := h b (by simp)
      constructor
      · intro _; exact .inr ⟨b, by simp, rfl⟩
      · intro _; left; simp [this]
    · rw [getD_set_ne false hx]
      simp [hx]
theorem matS_slL {sl0 : Nat → SV} {prs : List (Option Nat × SV)} (hu : Uniq prs) : ∀ (r : List Al) (lm : Array Bool) (nk : Nat), (∀ (pos : Nat) (b : Al), r[pos]? = some b → prs[b.i]? = some (some b.t, .loc (nk + pos) 0) ∧ b.i < lm.size) →
    matS r (slL sl0 prs lm) nk = slL sl0 prs (setAll r lm)
  | [], lm, nk, _ => rfl
  | b :: r, lm, nk, h => by
    obtain ⟨h1, h2⟩ := h 0 b rfl
    have e : upd (slL sl0 prs lm) b.t (.loc nk 0) = slL sl0 prs (lm.setIfInBounds b.i true) := by
      rw [slL_set hu h1 h2]; rfl
    rw [matS, setAll, e]
    refine matS_slL hu r _ (nk + 1) fun pos c hc => ?_
    obtain ⟨h3, h4⟩ := h (pos + 1) c (by simpa using hc)
    exact ⟨by rw [show nk + 1 + pos = nk + (pos + 1) by omega]; exact h3, by simpa using h4⟩
theorem adoptAll {E : Ent} {a : Act} {w : World} {S : Nat → Prop} {G : Nat → Nat} : ∀ (r : List Al) {s : St} {γ : Nat → Value}, Rl E s a w S γ → (∀ b ∈ r, PendAt E a w S γ s.o (G b.i) b.t b.l) → r.Pairwise (fun b c => G b.i ≠ G c.i) →
    ∃ γ', Rl E ⟨matS r s.sl s.nk, (matO r (s.o, s.nk)).1, (matO r (s.o, s.nk)).2⟩ a w S γ' ∧ ∀ g t l, (∀ b ∈ r, g ≠ G b.i) → PendAt E a w S γ s.o g t l → PendAt E a w S γ' (matO r (s.o, s.nk)).1 g t l
  | [], s, γ, hr, _, _ => ⟨γ, hr, fun _ _ _ _ h => h⟩
  | b :: r, s, γ, hr, hp, hd => by
    obtain ⟨hd1, hd2⟩ := List.pairwise_cons.1 hd
    have hb := hp b (by simp)
    have hr2 := hr.adopt hb.2 hb.1
    obtain ⟨γ', k1, k2⟩ := adoptAll r hr2 (fun c hc => (hp c (by simp [hc])).adopt hr.sto.o_lt (fun e => hd1 c hc e.symm)) hd2
    exact ⟨γ', k1, fun g t l hg hpd => k2 g t l (fun c hc => hg c (by simp [hc])) (hpd.adopt hr.sto.o_lt (hg b (by simp)))⟩

theorem gdc_wanted2 {E : Ent} {s : St} {a : Act} {w : World} {ops : Array Oper} {o : Oper} {c : Bool} (hr : Rel E s a w) (h : gdc ops s o.guard c) : Region.wanted o (yielded ops a.tmps) = c := by
  unfold gdc at h
  unfold Region.wanted
  split at h
  · rename_i hg; rw [hg]; exact h.symm
  · rename_i j want hg
    rw [hg]
    exact guard_yield hr h
section
variable {P : Program} {Θ : Tab} {n k0 : Nat} {Q : Exit → St → Prop}
def eOpP (P : Program) (Θ : Tab) (ops : Array Oper) (ph : Nat → Ob) (al : List Al) (o : Oper) (sl : Nat → SV) (v : SV) : KdP → Prop
  | .q lo hi => allP (hi - lo) (fun p => gOp P Θ ops o ⟨sl, (ph p).1, (ph p).2⟩ v) lo
  | .w j => ∃ c v2, gdc ops ⟨sl, (matO (lsAt al j) (ph j)).1, (matO (lsAt al j) (ph j)).2⟩ o.guard c ∧ (c = true → vOp P Θ o.op ⟨sl, (matO (lsAt al j) (ph j)).1, (matO (lsAt al j) (ph j)).2⟩ fun v' o' nk' => v' = v2 ∧ o' = (ph (j + 1)).1 ∧ nk' = (ph (j + 1)).2) ∧ (c = false → ph (j + 1) = matO (lsAt al j) (ph j)) ∧ v = cnd c v2
  | .a j k => v = .loc ((ph j).2 + k) 0
/-- What the kinds must fit. -/
structure FitP (Θ : Tab) (ops : Array Oper) (kd : List KdP) (wr : List Nat) (al : List Al) : Prop where
  kl : kd.length = ops.size
  nd : wr.Nodup
  wk : ∀ j i, wr[j]? = some i → kd[i]? = some (KdP.w j)
  q : ∀ i lo hi, kd[i]? = some (KdP.q lo hi) → lo ≤ wr.length ∧ ∀ j x, wr[j]? = some x → (j < lo → ancB ops.toList i x = true) ∧ (hi ≤ j → ancB ops.toList x i = true)
  w : ∀ i j, kd[i]? = some (KdP.w j) → wr[j]? = some i ∧ ∀ j' x, wr[j']? = some x → j' < j → ancB ops.toList i x = true
  a : ∀ i j k, kd[i]? = some (KdP.a j k) → ∃ b ∈ al, b.i = i ∧ b.j = j ∧ (lsAt al j)[k]? = some b
  aA : ∀ b ∈ al, (∃ k, kd[b.i]? = some (KdP.a b.j k)) ∧ ∃ x, wr[b.j]? = some x ∧ ancB ops.toList x b.i = true
  us : ∀ b ∈ al, ∀ i o, ops[i]? = some o → b.t ∈ o.looksAt ops → wr[b.j]? = some i ∨ ∃ x, wr[b.j]? = some x ∧ ancB ops.toList i x = true
  op : ∀ b ∈ al, ∃ o e i, ops[b.i]? = some o ∧ o.op = .alloc e ∧ o.guard = none ∧ o.dst = some b.t ∧ Θ e = some i ∧ i.z = some b.l
  inj : ∀ b ∈ al, ∀ c ∈ al, b.i = c.i → b = c
  ndL : ∀ j, (lsAt al j).Pairwise fun b c => b.i ≠ c.i

theorem WP.drawnP (hΘ : TabOk P Θ) (hm : P.follows .mixedOrders = true) {sl : Nat → SV} {id : Nat} {ops : Array Oper} {kd : List KdP} {wr : List Nat} {al : List Al} (fit : FitP Θ ops kd wr al) (ph : Nat → Ob) (vs : List SV) (hd : (ops.toList.all fun o => dstOk n o.dst) = true) (hflow : flowOk ops = true)
    (hvl : vs.length = ops.size) (hany : ∀ b ∈ al, sl b.t = .any)
    (hop : ∀ (i : Nat) (o : Oper) (v : SV) (k : KdP), ops[i]? = some o → vs[i]? = some v → kd[i]? = some k → eOpP P Θ ops ph al o (slAt sl (((ops.toList.map (·.dst)).zip vs).take i)) v k)
    (hfin : Q .normal ⟨slAt sl ((ops.toList.map (·.dst)).zip vs), (ph wr.length).1, (ph wr.length).2⟩) : WP P n k0 (.region id ops true) ⟨sl, (ph 0).1, (ph 0).2⟩ Q := by
  intro E a w e1 e2 hrel
  refine wp_region_any hm ?_
  generalize hprs : (ops.toList.map (·.dst)).zip vs = prs at hop hfin
  have hget : ∀ (j : Nat) (o : Oper), ops[j]? = some o → ∃ v, vs[j]? = some v ∧ prs[j]? = some (o.dst, v) := fun j o hj => by
    have hlt : j < ops.size := (Array.getElem?_eq_some_iff.1 hj).1
    have hv : vs[j]? = some (vs[j]'(by rw [hvl]; exact hlt)) := List.getElem?_eq_getElem _
    refine ⟨_, hv, ?_⟩
    rw [← hprs, List.getElem?_zip_eq_some]
    refine ⟨?_, hv⟩
    rw [List.getElem?_map]
    have : ops.toList[j]? = some o := by simpa using hj
    rw [this]; rfl
  have hback : ∀ (j : Nat) (d : Option Nat) (v : SV), prs[j]? = some (d, v) → ∃ o, ops[j]? = some o ∧ o.dst = d ∧ vs[j]? = some v := fun j d v hj => by
    rw [← hprs, List.getElem?_zip_eq_some, List.getElem?_map] at hj
    obtain ⟨h1, h2⟩ := hj
    obtain ⟨o, ho, rfl⟩ := Option.map_eq_some_iff.1 h1
    exact ⟨o, by simpa using ho, rfl, h2⟩
  have huniq : Uniq prs := fun i j u v x hi hj => by
    obtain ⟨o, ho, hod, _⟩ := hback i _ v hi
    obtain ⟨p, hp, hpd, _⟩ := hback j _ x hj
    have := (flow_spec hflow ho).2 j p hp
    simp only [flowAt, hpd, Bool.and_eq_true, Bool.or_eq_true, beq_iff_eq] at this
    rcases this.1 with h1 | h1
    · exact h1
    · simp [hod] at h1
  have hons : ∀ {o : Oper} {e : Edge}, e ∈ o.after → Region.binds .any e = true → e.on ∈ onsOf o := fun {o e} he hb => by
    simp only [onsOf, List.mem_map, List.mem_filter]
    exact ⟨e, ⟨by simpa using he, hb⟩, rfl⟩
  have hons' : ∀ {o : Oper} {j : Nat}, j ∈ onsOf o → ∃ e ∈ o.after, Region.binds .any e = true ∧ e.on = j := fun {o j} hj => by
    simp only [onsOf, List.mem_map, List.mem_filter] at hj
    obtain ⟨e, ⟨h1, h2⟩, h3⟩ := hj
    exact ⟨e, by simpa using h1, h2, h3⟩
  have honlt : ∀ (i : Nat) (o : Oper), ops.toList[i]? = some o → ∀ k ∈ onsOf o, k < i := fun i o ho => (flow_spec hflow (by simpa using ho)).1
  -- an alloc's place
  have hpA : ∀ b ∈ al, b.i < ops.size ∧ ∃ v, prs[b.i]? = some (some b.t, v) := fun b hb => by
    obtain ⟨o, e, i, h1, _, _, h4, _⟩ := fit.op b hb
    obtain ⟨v, _, h6⟩ := hget b.i o h1
    exact ⟨(Array.getElem?_eq_some_iff.1 h1).1, v, by rw [h6, h4]⟩
  have hpL : ∀ (j pos : Nat) (b : Al), (lsAt al j)[pos]? = some b → prs[b.i]? = some (some b.t, .loc ((ph j).2 + pos) 0) := fun j pos b hb => by
    have hm := List.mem_of_getElem? hb
    simp only [lsAt, List.mem_filter, decide_eq_true_eq] at hm
    obtain ⟨hbm, rfl⟩ := hm
    obtain ⟨o, e, i, h1, _, _, h4, _⟩ := fit.op b hbm
    obtain ⟨v, h5, h6⟩ := hget b.i o h1
    obtain ⟨⟨k, hk⟩, _⟩ := fit.aA b hbm
    have hv := hop b.i o v _ h1 h5 hk
    obtain ⟨c, hc, hci, hcj, hck⟩ := fit.a _ _ _ hk
    obtain rfl := fit.inj c hc b hbm hci
    have hkp : k = pos := by
      obtain ⟨q1, q2⟩ := List.getElem?_eq_some_iff.1 hck
      obtain ⟨q3, q4⟩ := List.getElem?_eq_some_iff.1 hb
      rcases Nat.lt_trichotomy k pos with hlt | heq | hgt
      · exact absurd (by rw [q2, q4]) ((List.pairwise_iff_getElem.1 (fit.ndL c.j)) k pos q1 q3 hlt)
      · exact heq
      · exact absurd (by rw [q2, q4]) ((List.pairwise_iff_getElem.1 (fit.ndL c.j)) pos k q3 q1 hgt)
    rw [h6, h4]
    simp only [eOpP] at hv
    rw [hv, hkp]
  have hwlt : ∀ j i, wr[j]? = some i → i < ops.size := fun j i hj => by
    have := (List.getElem?_eq_some_iff.1 (fit.wk j i hj)).1
    rw [fit.kl] at this
    exact this
  have hsl : ∀ (listed lm : Array Bool) (i : Nat) (o : Oper), (∀ (j : Nat) (p : Oper), ops[j]? = some p → listed.getD j false = true → ∀ k ∈ onsOf p, listed.getD k false = true) → (∀ x, lm.getD x false = true → listed.getD x false = true) →
      (∀ x, listed.getD x false = true → lm.getD x false = true ∨ ∃ b ∈ al, b.i = x ∧ b.t ∉ o.looksAt ops) →
      ops[i]? = some o → listed.getD i false = false → (∀ k ∈ onsOf o, listed.getD k false = true) → ∀ u ∈ o.looksAt ops, slAt sl (prs.take i) u = slL sl prs lm u := by
    intro listed lm i o hcl hle hto ho hif hon u hu
    by_cases hex : ∃ (j : Nat) (x : SV), prs[j]? = some (some u, x)
    · obtain ⟨j, x, hj⟩ := hex
      obtain ⟨p, hp, hpd, _⟩ := hback j _ x hj
      have hfl := (flow_spec hflow ho).2 j p hp
      have hlook : (o.looksAt ops).contains u = true := by simpa using hu
      simp only [flowAt, hpd, Bool.and_eq_true, Bool.or_eq_true, beq_iff_eq, hlook, Bool.not_true, Bool.false_eq_true, false_or, decide_eq_true_eq, List.contains_eq_mem] at hfl
      rcases hfl.2 with ⟨h1, h2⟩ | ⟨h1, h2⟩
      · have hlj : lm.getD j false = true := by
          rcases hto j (hon j h2) with h | ⟨b, hb, hbi, hbt⟩
          · exact h
          · obtain ⟨_, v, hv⟩ := hpA b hb
            rw [hbi, hj] at hv
            simp at hv
            rw [hv.1] at hu
            exact absurd hu hbt
        rw [slL_hit huniq hj hlj]
        refine slAt_hit _ _ j (by rw [List.getElem?_take, if_pos h1]; exact hj) fun k y hk => ?_
        rw [List.getElem?_take] at hk
        split at hk
        · exact huniq k j u y x hk hj
        · cases hk
      · rw [slAt_miss, slL_miss]
        · intro k y hk hl
          have := huniq k j u y x hk hj
          subst this
          have := hcl k p hp (hle k hl) i h2
          rw [hif] at this
          cases this
        · intro y hy
          obtain ⟨k, hk⟩ := List.getElem?_of_mem hy
          rw [List.getElem?_take] at hk
          split at hk
          · have := huniq k j u y x hk hj
            omega
          · cases hk
    · rw [slAt_miss, slL_miss]
      · exact fun k y hk _ => hex ⟨k, y, hk⟩
      · intro y hy
        obtain ⟨k, hk⟩ := List.getElem?_of_mem (List.mem_of_mem_take hy)
        exact hex ⟨k, y, hk⟩
  have main : ∀ (fuel : Nat) (listed lm : Array Bool) (p : Nat) (G : Nat → Nat) (a : Act) (w : World) (S : Nat → Prop) (γ : Nat → Value), listed.size = ops.size → lm.size = ops.size → unl listed ops.size ≤ fuel → p ≤ wr.length →
      (∀ j i, wr[j]? = some i → (listed.getD i false = true ↔ j < p)) → (∀ (j : Nat) (p : Oper), ops[j]? = some p → listed.getD j false = true → ∀ k ∈ onsOf p, listed.getD k false = true) →
      (∀ x, (∀ b ∈ al, b.i ≠ x) → lm.getD x false = listed.getD x false) → (∀ b ∈ al, (lm.getD b.i false = true ↔ b.j < p)) →
      Rl E ⟨slL sl prs lm, (ph p).1, (ph p).2⟩ a w S γ →
      (∀ b ∈ al, listed.getD b.i false = true → p ≤ b.j → PendAt E a w S γ (ph p).1 (G b.i) b.t b.l) →
      (∀ b ∈ al, ∀ c ∈ al, listed.getD b.i false = true → listed.getD c.i false = true → p ≤ b.j → p ≤ c.j → b.i ≠ c.i → G b.i ≠ G c.i) →
      wpAny P .any ops (fun e a' w' => ∃ s', Rel E s' a' w' ∧ Q e s') fuel listed a w := by
    intro fuel
    have hancw : ∀ (listed : Array Bool), (∀ (j : Nat) (p : Oper), ops[j]? = some p → listed.getD j false = true → ∀ k ∈ onsOf p, listed.getD k false = true) → listed.size = ops.size → ∀ (y x : Nat), ancB ops.toList y x = true → listed.getD y false = true → listed.getD x false = true := by
      intro listed hcl hsz y x hx hy
      cases hq : ops[y]? with
      | none =>
        have : listed.getD y false = false := by
          have := Array.getElem?_eq_none_iff.1 hq
          have : ¬ y < listed.size := by omega
          simp [this]
        rw [this] at hy; cases hy
      | some q =>
        refine ancs_closed honlt (fun j p hj => hcl j p (by simpa using hj)) ops.toList.length y q (by simpa using (Array.getElem?_eq_some_iff.1 hq).1) (by simpa using hq) (hcl y q hq hy) x ?_
        simpa [ancB] using hx
    have hdone : ∀ (listed lm : Array Bool) (p : Nat) (a : Act) (w : World), listed.size = ops.size → lm.size = ops.size → p ≤ wr.length → (∀ j i, wr[j]? = some i → (listed.getD i false = true ↔ j < p)) →
        (∀ x, (∀ b ∈ al, b.i ≠ x) → lm.getD x false = listed.getD x false) → (∀ b ∈ al, (lm.getD b.i false = true ↔ b.j < p)) →
        (∀ i, i < ops.size → listed.getD i true = true) → Rel E ⟨slL sl prs lm, (ph p).1, (ph p).2⟩ a w → ∃ s', Rel E s' a w ∧ Q .normal s' := by
      intro listed lm p a w hsz hlsz hp hwp ht1 ht2 hL hr
      have hLf : ∀ i, i < ops.size → listed.getD i false = true := fun i hi => by
        have h1 := hL i hi
        have : i < listed.size := by omega
        simp [this] at h1 ⊢; exact h1
      have hpe : p = wr.length := by
        by_cases h : p < wr.length
        · have h1 := hwp p wr[p] (List.getElem?_eq_getElem h)
          have := h1.1 (hLf _ (hwlt p _ (List.getElem?_eq_getElem h)))
          omega
        · omega
      subst hpe
      have hlm : ∀ i, i < ops.size → lm.getD i false = true := fun i hi => by
        by_cases hx : ∃ b ∈ al, b.i = i
        · obtain ⟨b, hb, rfl⟩ := hx
          obtain ⟨_, x, hx, _⟩ := fit.aA b hb
          exact (ht2 b hb).2 (List.getElem?_eq_some_iff.1 hx).1
        · rw [ht1 i (fun b hb e => hx ⟨b, hb, e⟩)]; exact hLf i hi
      have hall : slL sl prs lm = slAt sl prs := by
        funext u
        by_cases hex : ∃ (j : Nat) (x : SV), prs[j]? = some (some u, x)
        · obtain ⟨j, x, hj⟩ := hex
          obtain ⟨q, hq, _, _⟩ := hback j _ x hj
          rw [slL_hit huniq hj (hlm j (Array.getElem?_eq_some_iff.1 hq).1), slAt_hit _ _ j hj fun k y hk => huniq k j u y x hk hj]
        · rw [slL_miss, slAt_miss]
          · intro y hy
            obtain ⟨k, hk⟩ := List.getElem?_of_mem hy
            exact hex ⟨k, y, hk⟩
          · exact fun k y hk _ => hex ⟨k, y, hk⟩
      rw [hall] at hr
      exact ⟨_, hr, hfin⟩
    induction fuel with
    | zero =>
      intro listed lm p G a w S γ hsz hlsz hun hp hwp hcl ht1 ht2 hr hpend hdis
      have hL := unl_zero ops.size (by omega) (listed := listed)
      obtain ⟨s', h1, h2⟩ := hdone listed lm p a w hsz hlsz hp hwp ht1 ht2 hL ⟨S, γ, hr⟩
      refine ⟨?_, s', h1, h2⟩
      rw [List.eq_nil_iff_forall_not_mem]
      intro i hi
      rw [mem_ready] at hi
      obtain ⟨h0, o, ho, _⟩ := hi
      have := hL i (Array.getElem?_eq_some_iff.1 ho).1
      rw [this] at h0
      cases h0
    | succ fuel ih =>
      intro listed lm p G a w S γ hsz hlsz hun hp hwp hcl ht1 ht2 hr hpend hdis
      refine ⟨fun hnil => ?_, fun i hi => ?_⟩
      · have hL : ∀ i, i < ops.size → listed.getD i true = true := by
          intro i
          induction i using Nat.strongRecOn with
          | _ i ihi =>
            intro hlt
            by_cases hl : listed.getD i true = true
            · exact hl
            · exfalso
              simp only [Bool.not_eq_true] at hl
              have hmem : i ∈ Region.ready .any ops listed := by
                rw [mem_ready]
                refine ⟨hl, ops[i], by simp [hlt], fun e he hb => ?_⟩
                have hlt2 := (flow_spec hflow (i := i) (o := ops[i]) (by simp [hlt])).1 e.on (hons he hb)
                have := ihi e.on hlt2 (by omega)
                have hlt3 : e.on < listed.size := by omega
                simp [hlt3] at this ⊢
                exact this
              rw [hnil] at hmem
              cases hmem
        exact hdone listed lm p a w hsz hlsz hp hwp ht1 ht2 hL ⟨S, γ, hr⟩
      · have hi' := hi
        rw [mem_ready] at hi'
        obtain ⟨h0, o, ho, hon⟩ := hi'
        have hilt : i < ops.size := (Array.getElem?_eq_some_iff.1 ho).1
        have h0f : listed.getD i false = false := by
          have : i < listed.size := by omega
          simp [this] at h0 ⊢; exact h0
        obtain ⟨v, hv, hpv⟩ := hget i o ho
        have hon' : ∀ k ∈ onsOf o, listed.getD k false = true := fun k hk => by
          obtain ⟨e, h1, h2, rfl⟩ := hons' hk
          exact hon e h1 h2
        have hanc : ∀ k, ancB ops.toList i k = true → listed.getD k false = true := fun k hk => by
          refine ancs_closed honlt (fun j p hj => hcl j p (by simpa using hj)) ops.toList.length i o (by simpa using hilt) (by simpa using ho) hon' k ?_
          simpa [ancB] using hk
        have hle : ∀ x, lm.getD x false = true → listed.getD x false = true := fun x hx => by
          by_cases hex : ∃ b ∈ al, b.i = x
          · obtain ⟨b, hb, rfl⟩ := hex
            obtain ⟨_, y, hy, hya⟩ := fit.aA b hb
            exact hancw listed hcl hsz y b.i hya ((hwp b.j y hy).2 ((ht2 b hb).1 hx))
          · rw [← ht1 x (fun b hb e => hex ⟨b, hb, e⟩)]; exact hx
        have hdo : dstOk E.n o.dst = true := by
          rw [e1]
          exact List.all_eq_true.1 hd o (by
            have : ops.toList[i]? = some o := by simpa using ho
            exact List.mem_of_getElem? this)
        have hcl2 : ∀ (j : Nat) (p : Oper), ops[j]? = some p → (listed.setIfInBounds i true).getD j false = true → ∀ k ∈ onsOf p, (listed.setIfInBounds i true).getD k false = true := by
          intro j p hj hl k hk
          by_cases hji : j = i
          · subst hji
            rw [ho] at hj
            simp only [Option.some.injEq] at hj
            subst hj
            exact getD_set_true (hon' k hk)
          · rw [getD_set_ne false (Ne.symm hji)] at hl
            exact getD_set_true (hcl j p hj hl k hk)
        have hun2 : unl (listed.setIfInBounds i true) ops.size ≤ fuel := by
          have := unl_set h0 ops.size
          rw [if_pos hilt] at this
          omega
        have hseti : (listed.setIfInBounds i true).getD i false = true := by
          have : i < listed.size := by rw [hsz]; exact hilt
          simp [this]
        obtain ⟨k, hk⟩ : ∃ k, kd[i]? = some k := ⟨_, List.getElem?_eq_getElem (by rw [fit.kl]; exact hilt)⟩
        have he := hop i o v k ho hv hk
        have hnot : (∀ j k', kd[i]? ≠ some (KdP.a j k')) → ∀ b ∈ al, b.i ≠ i := fun h b hb e => by
          obtain ⟨⟨k', hk'⟩, _⟩ := fit.aA b hb
          rw [e] at hk'
          exact h _ _ hk'
        have hdne : ∀ b ∈ al, b.i ≠ i → o.dst ≠ some b.t := fun b hb hne e => by
          obtain ⟨_, x, hx⟩ := hpA b hb
          rw [e] at hpv
          exact hne (huniq b.i i b.t x v hx hpv)
        show wpOp P ops _ i _ a w
        unfold wpOp
        rw [ho]
        simp only
        cases k with
        | q lo hi =>
          obtain ⟨hlo, hky⟩ := fit.q i lo hi hk
          have hni := hnot (fun j k' h => by rw [hk] at h; cases h)
          have hnw : ∀ j, wr[j]? ≠ some i := fun j hj => by
            have := fit.wk j i hj
            rw [hk] at this; cases this
          have hplo : lo ≤ p := by
            rcases Nat.lt_or_ge p lo with h | h
            · have hlt : p < wr.length := by omega
              have hw := List.getElem?_eq_getElem hlt
              have h1 := hanc _ ((hky p _ hw).1 h)
              have := (hwp p _ hw).1 h1
              omega
            · exact h
          have hphi : p ≤ hi := by
            rcases Nat.lt_or_ge hi p with h | h
            · have hlt : hi < wr.length := by omega
              have hw := List.getElem?_eq_getElem hlt
              have h1 := (hwp hi _ hw).2 h
              have h2 := hancw listed hcl hsz _ _ ((hky hi _ hw).2 (Nat.le_refl _)) h1
              rw [h0f] at h2; cases h2
            · exact h
          have hg0 := allP_at (hi - lo) lo p he hplo (by omega)
          have hto : ∀ x, listed.getD x false = true → lm.getD x false = true ∨ ∃ b ∈ al, b.i = x ∧ b.t ∉ o.looksAt ops := fun x hx => by
            by_cases hex : ∃ b ∈ al, b.i = x
            · obtain ⟨b, hb, rfl⟩ := hex
              by_cases hbj : b.j < p
              · exact .inl ((ht2 b hb).2 hbj)
              · refine .inr ⟨b, hb, rfl, fun hlk => ?_⟩
                rcases fit.us b hb i o ho hlk with h | ⟨y, h1, h2⟩
                · exact hnw _ h
                · exact hbj ((hwp _ _ h1).1 (hanc _ h2))
            · left
              rw [ht1 x (fun b hb e => hex ⟨b, hb, e⟩)]; exact hx
          have hg : gOp P Θ ops o ⟨slL sl prs lm, (ph p).1, (ph p).2⟩ v := gOp_congr (s := ⟨slAt sl (prs.take i), (ph p).1, (ph p).2⟩) (fun u hu => hsl listed lm i o hcl hle hto ho h0f hon' u hu) rfl rfl hg0
          have hstep := g_stepL (Q := fun e a' w' => ∃ s', Rel E s' a' w' ∧ Q e s') (next := wpAny P .any ops (fun e a' w' => ∃ s', Rel E s' a' w' ∧ Q e s') fuel (listed.setIfInBounds i true)) hΘ hr hdo hg (fun u w' S' γ' hr' ht => by
            refine ih _ (lm.setIfInBounds i true) p G _ w' S' γ' (by simpa using hsz) (by simpa using hlsz) hun2 hp (fun j x hj => ?_) hcl2 (fun x hx => ?_) (fun b hb => ?_) (by rw [slL_set huniq hpv (by omega)]; exact hr') (fun b hb hl hpj => ?_) (fun b hb c hc hl1 hl2 hp1 hp2 hne => ?_)
            · have hne : x ≠ i := fun e => hnw j (by rw [hj, e])
              rw [getD_set_ne false (Ne.symm hne)]
              exact hwp j x hj
            · by_cases hxi : x = i
              · subst hxi
                rw [hseti]
                have : x < lm.size := by omega
                simp [this]
              · rw [getD_set_ne false (Ne.symm hxi), getD_set_ne false (Ne.symm hxi)]
                exact ht1 x hx
            · rw [getD_set_ne false (Ne.symm (hni b hb))]
              exact ht2 b hb
            · rw [getD_set_ne false (Ne.symm (hni b hb))] at hl
              exact (hpend b hb hl hpj).step hr.sto ht (hdne b hb (hni b hb))
            · rw [getD_set_ne false (Ne.symm (hni b hb))] at hl1
              rw [getD_set_ne false (Ne.symm (hni c hc))] at hl2
              exact hdis b hb c hc hl1 hl2 hp1 hp2 hne)
          split
          · rename_i hw
            rw [if_pos hw] at hstep
            exact .inl hstep
          · rename_i hw
            rw [if_neg hw] at hstep
            exact hstep
        | a j k =>
          obtain ⟨b, hb, rfl, rfl, hbk⟩ := fit.a i j k hk
          obtain ⟨o', e', ti, h1, hopa, hgn, hdst, hti, htz⟩ := fit.op b hb
          rw [ho] at h1
          simp only [Option.some.injEq] at h1
          subst h1
          obtain ⟨_, y, hy, hya⟩ := fit.aA b hb
          have hpj : p ≤ b.j := by
            rcases Nat.lt_or_ge b.j p with h | h
            · have := hancw listed hcl hsz y b.i hya ((hwp b.j y hy).2 h)
              rw [h0f] at this; cases this
            · exact h
          have hwant : Region.wanted o (yielded ops a.tmps) = true := by simp [Region.wanted, hgn]
          rw [if_pos hwant]
          have htn : b.t < E.n := by
            have := hdo
            rw [hdst] at this
            simpa [dstOk] using this
          have hrest : ∀ c ∈ al, c ≠ b → c.i ≠ b.i := fun c hc hne e => hne (fit.inj c hc b hb e)
          refine .inl (alloc_pend hΘ hr hopa hdst htn hti htz fun u w' S' γ' g hr' hu hnew hpd ht => ?_)
          have hsame : upd (slL sl prs lm) b.t .any = slL sl prs lm := by
            funext z
            by_cases hz : z = b.t
            · subst hz
              rw [upd_same, slL_miss, hany b hb]
              intro q x hq hl
              obtain ⟨_, x2, hx2⟩ := hpA b hb
              have := huniq q b.i b.t x x2 hq hx2
              subst this
              have := (ht2 b hb).1 hl
              omega
            · rw [upd_ne _ _ hz]
          rw [hsame] at hr'
          have hput : (a.put (some b.t) u).tmps.getD b.t undef = u := by
            have : b.t < a.tmps.size := by rw [hr.nn]; exact htn
            simp [Act.put, this]
          refine ih _ lm p (fun x => if x = b.i then g else G x) _ w' S' γ' (by simpa using hsz) hlsz hun2 hp (fun j x hj => ?_) hcl2 (fun x hx => ?_) ht2 hr' (fun c hc hl hpj' => ?_) (fun c hc d hdd hl1 hl2 hp1 hp2 hne => ?_)
          · have hne : x ≠ b.i := fun e => by
              have := fit.wk j x hj
              rw [e, hk] at this; cases this
            rw [getD_set_ne false (Ne.symm hne)]
            exact hwp j x hj
          · rw [getD_set_ne false (hx b hb)]
            exact ht1 x hx
          · by_cases hcb : c = b
            · subst hcb
              simp only [if_true]
              exact ⟨by rw [hput, hu], hpd⟩
            · have hci := hrest c hc hcb
              simp only [if_neg hci]
              rw [getD_set_ne false (Ne.symm hci)] at hl
              have := hdne c hc hci
              rw [hdst] at this
              exact (hpend c hc hl hpj').step hr.sto ht this
          · by_cases hcb : c.i = b.i
            · by_cases hdb : d.i = b.i
              · exact absurd (hcb.trans hdb.symm) hne
              · simp only [if_pos hcb, if_neg hdb]
                rw [getD_set_ne false (Ne.symm hdb)] at hl2
                have := (hpend d hdd hl2 hp2).2.lt
                omega
            · by_cases hdb : d.i = b.i
              · simp only [if_neg hcb, if_pos hdb]
                rw [getD_set_ne false (Ne.symm hcb)] at hl1
                have := (hpend c hc hl1 hp1).2.lt
                omega
              · simp only [if_neg hcb, if_neg hdb]
                rw [getD_set_ne false (Ne.symm hcb)] at hl1
                rw [getD_set_ne false (Ne.symm hdb)] at hl2
                exact hdis c hc d hdd hl1 hl2 hp1 hp2 hne
        | w j =>
          obtain ⟨hwj, hky⟩ := fit.w i j hk
          have hni := hnot (fun j k' h => by rw [hk] at h; cases h)
          have hjlt : j < wr.length := (List.getElem?_eq_some_iff.1 hwj).1
          have hpj : p = j := by
            have h1 : ¬ j < p := fun h => by
              have := (hwp j i hwj).2 h
              rw [h0f] at this; cases this
            rcases Nat.lt_or_ge p j with h | h
            · have hlt : p < wr.length := by omega
              have hw := List.getElem?_eq_getElem hlt
              have := (hwp p _ hw).1 (hanc _ (hky p _ hw h))
              omega
            · omega
          subst hpj
          have hmemL : ∀ b, b ∈ lsAt al p ↔ b ∈ al ∧ b.j = p := fun b => by simp [lsAt]
          have hlis : ∀ b ∈ al, b.j = p → listed.getD b.i false = true := fun b hb hbj => by
            obtain ⟨_, y, hy, hya⟩ := fit.aA b hb
            rw [hbj, hwj] at hy
            simp only [Option.some.injEq] at hy
            subst hy
            exact hanc _ hya
          obtain ⟨γ2, hr2, hpk⟩ := adoptAll (G := G) (lsAt al p) hr (fun b hb => by
            obtain ⟨h1, h2⟩ := (hmemL b).1 hb
            exact hpend b h1 (hlis b h1 h2) (by omega)) (by
            refine (fit.ndL p).imp_of_mem fun {b c} hb hc hne => ?_
            obtain ⟨h1, h2⟩ := (hmemL b).1 hb
            obtain ⟨h3, h4⟩ := (hmemL c).1 hc
            exact hdis b h1 c h3 (hlis b h1 h2) (hlis c h3 h4) (by omega) (by omega) hne)
          have hslots := matS_slL (sl0 := sl) huniq (lsAt al p) lm (ph p).2 (fun pos b hb => ⟨hpL p pos b hb, by
            have := (hpA b ((hmemL b).1 (List.mem_of_getElem? hb)).1).1
            omega⟩)
          simp only [hslots] at hr2
          have hsg := setAll_get (lsAt al p) lm
          have hsg' : ∀ x, ((setAll (lsAt al p) lm).getD x false = true ↔ lm.getD x false = true ∨ ∃ b ∈ lsAt al p, b.i = x) := fun x => hsg x (fun b hb => by
            have := (hpA b ((hmemL b).1 hb).1).1
            omega)
          have hsz2 := setAll_size (lsAt al p) lm
          generalize hlm2 : setAll (lsAt al p) lm = lm2 at hr2 hsg' hsz2
          have hle2 : ∀ x, lm2.getD x false = true → listed.getD x false = true := fun x hx => by
            rcases (hsg' x).1 hx with h | ⟨b, hb, rfl⟩
            · exact hle x h
            · obtain ⟨h1, h2⟩ := (hmemL b).1 hb
              exact hlis b h1 h2
          have hto : ∀ x, listed.getD x false = true → lm2.getD x false = true ∨ ∃ b ∈ al, b.i = x ∧ b.t ∉ o.looksAt ops := fun x hx => by
            by_cases hex : ∃ b ∈ al, b.i = x
            · obtain ⟨b, hb, rfl⟩ := hex
              by_cases hbj : b.j < p
              · exact .inl ((hsg' _).2 (.inl ((ht2 b hb).2 hbj)))
              · by_cases hbp : b.j = p
                · exact .inl ((hsg' _).2 (.inr ⟨b, (hmemL b).2 ⟨hb, hbp⟩, rfl⟩))
                · refine .inr ⟨b, hb, rfl, fun hlk => ?_⟩
                  rcases fit.us b hb i o ho hlk with h | ⟨y, h1, h2⟩
                  · obtain ⟨q1, q2⟩ := List.getElem?_eq_some_iff.1 h
                    obtain ⟨q3, q4⟩ := List.getElem?_eq_some_iff.1 hwj
                    rcases Nat.lt_trichotomy b.j p with hlt | heq | hgt
                    · exact hbj hlt
                    · exact hbp heq
                    · exact absurd (q4.trans q2.symm) ((List.pairwise_iff_getElem.1 fit.nd) p b.j q3 q1 hgt)
                  · exact hbj ((hwp _ _ h1).1 (hanc _ h2))
            · left
              refine (hsg' x).2 (.inl ?_)
              rw [ht1 x (fun b hb e => hex ⟨b, hb, e⟩)]; exact hx
          obtain ⟨c, v2, hgc, hvo, hsame, rfl⟩ := he
          have hgc2 : gdc ops ⟨slL sl prs lm2, (matO (lsAt al p) ((ph p).1, (ph p).2)).1, (matO (lsAt al p) ((ph p).1, (ph p).2)).2⟩ o.guard c := by
            unfold gdc at hgc ⊢
            split at hgc
            · exact hgc
            · rename_i j want hg
              have hgs : gsl ops ⟨slL sl prs lm2, (matO (lsAt al p) ((ph p).1, (ph p).2)).1, (matO (lsAt al p) ((ph p).1, (ph p).2)).2⟩ j = gsl ops ⟨slAt sl (prs.take i), (matO (lsAt al p) (ph p)).1, (matO (lsAt al p) (ph p)).2⟩ j := by
                unfold gsl
                split
                · rename_i d hd
                  refine (hsl listed lm2 i o hcl hle2 hto ho h0f hon' d ?_).symm
                  simp only [Oper.looksAt, List.mem_append, List.mem_filterMap]
                  right
                  rw [hg]
                  simp [hd]
                · rfl
              rw [hgs]; exact hgc
          have hlast : ∀ (u : Value) (w' : World) (S' : Nat → Prop) (γ' : Nat → Value), Rl E { sl := pt (slL sl prs lm2) o.dst (cnd c v2), o := (ph (p + 1)).1, nk := (ph (p + 1)).2 } (a.put o.dst u) w' S' γ' →
              Tr w S γ2 (matO (lsAt al p) ((ph p).1, (ph p).2)).1 (matO (lsAt al p) ((ph p).1, (ph p).2)).2 w' S' γ' (ph (p + 1)).1 (ph (p + 1)).2 → wpAny P .any ops (fun e a' w' => ∃ s', Rel E s' a' w' ∧ Q e s') fuel (listed.setIfInBounds i true) (a.put o.dst u) w' := by
            intro u w' S' γ' hr' ht
            refine ih _ (lm2.setIfInBounds i true) (p + 1) G _ w' S' γ' (by simpa using hsz) (by simp [hsz2, hlsz]) hun2 (by omega) (fun j x hj => ?_) hcl2 (fun x hx => ?_) (fun b hb => ?_) (by rw [slL_set huniq hpv (by omega)]; exact hr') (fun b hb hl hpb => ?_) (fun b hb c hc hl1 hl2 hp1 hp2 hne => ?_)
            · by_cases hx : x = i
              · subst hx
                have hjp : j = p := by
                  obtain ⟨h1a, h1b⟩ := List.getElem?_eq_some_iff.1 hj
                  obtain ⟨h2a, h2b⟩ := List.getElem?_eq_some_iff.1 hwj
                  rcases Nat.lt_trichotomy j p with hlt | heq | hgt
                  · exact absurd (h1b.trans h2b.symm) ((List.pairwise_iff_getElem.1 fit.nd) j p h1a h2a hlt)
                  · exact heq
                  · exact absurd (h2b.trans h1b.symm) ((List.pairwise_iff_getElem.1 fit.nd) p j h2a h1a hgt)
                rw [hseti, hjp]
                simp
              · rw [getD_set_ne false (Ne.symm hx), hwp j x hj]
                have : j ≠ p := fun e => hx (by
                  subst e
                  rw [hwj] at hj
                  exact (Option.some.inj hj).symm)
                omega
            · by_cases hxi : x = i
              · subst hxi
                rw [hseti]
                have : x < lm2.size := by omega
                simp [this]
              · rw [getD_set_ne false (Ne.symm hxi), getD_set_ne false (Ne.symm hxi), ← ht1 x hx, Bool.eq_iff_iff, hsg' x]
                constructor
                · rintro (h | ⟨b, hb, rfl⟩)
                  · exact h
                  · exact absurd rfl (hx b ((hmemL b).1 hb).1)
                · exact .inl
            · rw [getD_set_ne false (Ne.symm (hni b hb)), hsg' b.i, ht2 b hb]
              constructor
              · rintro (h | ⟨c, hc, hci⟩)
                · omega
                · obtain ⟨h1, h2⟩ := (hmemL c).1 hc
                  have := fit.inj c h1 b hb hci
                  subst this
                  omega
              · intro h
                by_cases hbp : b.j = p
                · exact .inr ⟨b, (hmemL b).2 ⟨hb, hbp⟩, rfl⟩
                · exact .inl (by omega)
            · rw [getD_set_ne false (Ne.symm (hni b hb))] at hl
              have h1 := hpend b hb hl (by omega)
              have h2 := hpk (G b.i) b.t b.l (fun c hc => by
                obtain ⟨q1, q2⟩ := (hmemL c).1 hc
                exact hdis b hb c q1 hl (hlis c q1 q2) (by omega) (by omega) (fun e => by
                  have := fit.inj b hb c q1 e
                  subst this
                  omega)) h1
              exact h2.step hr2.sto ht (hdne b hb (hni b hb))
            · rw [getD_set_ne false (Ne.symm (hni b hb))] at hl1
              rw [getD_set_ne false (Ne.symm (hni c hc))] at hl2
              exact hdis b hb c hc hl1 hl2 (by omega) (by omega) hne
          have hwant := gdc_wanted2 (o := o) ⟨S, γ2, hr2⟩ hgc2
          cases c with
          | true =>
            have hvo2 := vOp_congr (s := ⟨slAt sl (prs.take i), (matO (lsAt al p) (ph p)).1, (matO (lsAt al p) (ph p)).2⟩) (s' := ⟨slL sl prs lm2, (matO (lsAt al p) ((ph p).1, (ph p).2)).1, (matO (lsAt al p) ((ph p).1, (ph p).2)).2⟩) (fun x hx => by
              cases x with
              | tmp t =>
                refine hsl listed lm2 i o hcl hle2 hto ho h0f hon' t ?_
                simp only [Oper.looksAt, List.mem_append, List.mem_filterMap]
                exact .inl ⟨.tmp t, by simpa using hx, rfl⟩
              | _ => rfl) rfl rfl (hvo rfl)
            rw [if_pos hwant]
            refine .inl (op_stepL hΘ hr2 hdo hvo2 ?_)
            rintro v' o' nk' u w' S' γ' ⟨rfl, rfl, rfl⟩ hr' ht
            exact hlast u w' S' γ' (by rw [cnd_T]; exact hr') ht
          | false =>
            rw [if_neg (by rw [hwant]; simp)]
            have e := hsame rfl
            have hput := hr2.put hdo hr2.sto (Tr.refl _ _ _ _ _) (SR.tup [] [] rfl (by simp)) (show SV.lt _ (.tup []) from trivial) (u := undef)
            refine hlast undef w S γ2 (by rw [e, cnd_F]; exact hput) (by rw [e]; exact Tr.refl _ _ _ _ _)
  obtain ⟨S, γ, hr⟩ := hrel
  obtain ⟨m1, m2⟩ := hr.sto.more (w' := { w with drawn := w.drawn + 1 }) (fun _ => False) (fun _ h => h.elim) rfl rfl rfl (Nat.le_refl _) (fun _ _ => rfl)
  have hrepf : ∀ i, (Array.replicate ops.size false).getD i false = false := fun i => by
    simp only [Array.getD_eq_getD_getElem?, Array.getElem?_replicate]
    split <;> rfl
  have hsl0 : slL sl prs (Array.replicate ops.size false) = sl := by
    funext u
    refine slL_miss fun j v _ hl => ?_
    rw [hrepf] at hl; cases hl
  have hunl : ∀ m, unl (Array.replicate ops.size false) m ≤ m := by
    intro m
    induction m with
    | zero => simp [unl]
    | succ m ih => simp only [unl]; split <;> omega
  refine main ops.size (Array.replicate ops.size false) (Array.replicate ops.size false) 0 (fun _ => 0) a { w with drawn := w.drawn + 1 } (fun k => S k ∨ False) γ (by simp) (by simp) (hunl _) (Nat.zero_le _) (fun j i _ => ?_) (fun j p _ hl => ?_) (fun _ _ => rfl) (fun b _ => ?_) ?_ (fun b _ hl => ?_) (fun b _ c _ hl => ?_)
  · rw [hrepf]; simp
  · rw [hrepf] at hl; cases hl
  · rw [hrepf]; simp
  · rw [hsl0]
    exact ⟨m1, hr.tr.trans m2, fun u => (hr.sl u).tr hr.sto m2 (hr.slt u), hr.slt, hr.df, hr.nn⟩
  · rw [hrepf] at hl; cases hl
  · rw [hrepf] at hl; cases hl
end
end Go.Proofs.YtpkcbdhjnnnkbaaGreat.Abs
