/- Part 4 of the proof that EntryChecks: called with any entry and any text that hold together at most 1048576 values and letters, the law answers true, and both read afterwards as they read before. -/
import Derived.Test.YtpkcbdhjnnnkbaaGreatMEntryChecks3
import Derived.Test.YtpkcbdhjnnnkbaaGreatMEntryChecks2
import Derived.Test.YtpkcbdhjnnnkbaaGreatRows
import Derived.WalkKit
import Derived.ProofKit
import Derived.OpenShut
import Derived.JoinedCond
import Derived.ChangeArms
import Derived.Carry
set_option linter.unusedVariables false
set_option linter.unusedSimpArgs false
set_option maxRecDepth 10000
namespace Go.Proofs.YtpkcbdhjnnnkbaaGreat.Abs
open Go
/-- The place of a step's item; -1: there is none. -/
def placeV (v : Val) (s : Str) : Int :=
  if v.kind = 7 then idxS v.names s else if v.kind = 6 then (if stepI s < v.items.length then stepI s else -1) else -1
/-- What lies at a path. -/
def getV : Val → List Str → Option Val
  | v, [] => some v
  | v, s :: p => if 0 ≤ placeV v s then (match v.items[(placeV v s).toNat]? with
    | some x => getV x p
    | none => none) else none
theorem place7 {k i : Int} {t : Str} {xs : List Val} {ns : List Str} {s : Str} (h : k = 7) : placeV (.mk k i t xs ns) s = idxS ns s := by
  show (if k = 7 then _ else _) = _
  rw [if_pos h]; rfl
def zeroV : Val := .mk 0 0 [] [] []
/-- A value that was looked for. -/
def optL (o : Option Val) : List D := [encV (o.getD zeroV), .bool o.isSome]
def optL0 (o : Option Val) : List D := [match o with
  | some v => encV v
  | none => .agg [.int .i64 0, .int .i64 0, .str [], .nil, .nil], .bool o.isSome]
theorem opt_le (o : Option Val) : D.les (optL0 o) (optL o) := by
  cases o with
  | none => simp [optL0, optL, D.les, D.le, zeroV, encV, encVs]
  | some v => exact D.les_refl _
/-- What lies at a path of a document. -/
def getP (v : Val) (p : List Str) : Option Val := if v.kind = 7 ∧ mayV v = true ∧ pathV p = true then getV v p else none
theorem item_ex {xs : List Val} {j : Nat} (h : j < xs.length) : ∃ x, xs[j]? = some x := ⟨_, List.getElem?_eq_getElem h⟩
theorem getP_no {v : Val} {p : List Str} (hq : ((if v.kind ≠ 7 ∨ mayV v = false then (20 : Int) else if pathV p = true then 0 else 40) != 0) = true) : getP v p = none := by
  simp only [bne_iff_ne, ne_eq] at hq
  unfold getP
  rw [if_neg]
  rintro ⟨q1, q2, q3⟩
  rw [if_neg (by simp [q1, q2]), if_pos q3] at hq
  exact hq rfl
theorem getP_yes {v : Val} {p : List Str} (hq : ((if v.kind ≠ 7 ∨ mayV v = false then (20 : Int) else if pathV p = true then 0 else 40) != 0) = false) : getP v p = getV v p ∧ mayV v = true := by
  simp only [bne_eq_false_iff_eq] at hq
  unfold getP
  split at hq
  · cases hq
  · rename_i hq1
    simp only [ne_eq, not_or, Classical.not_not, Bool.not_eq_false] at hq1
    split at hq
    · rename_i hq2; exact ⟨if_pos ⟨hq1.1, hq1.2, hq2⟩, hq1.2⟩
    · cases hq
theorem pv2 {P : Program} {f : FuncId} {v : Val} {c : SV} {r : SV} (h : PSpec P f [.d (encV v), c] r) : PSpec P f [.d (.agg (valCells v)), c] r := encV_eq v ▸ h
theorem get_step {v : Val} {s : Str} {p : List Str} {x : Val} (h : 0 ≤ placeV v s) (hx : v.items[(placeV v s).toNat]? = some x) : getV v (s :: p) = getV x p := by
  rw [getV, if_pos h, hx]
theorem get_no {v : Val} {s : Str} {p : List Str} (h : placeV v s < 0) : getV v (s :: p) = none := by
  rw [getV, if_neg (by omega)]
theorem items_at {v : Val} {j : Nat} {x : Val} (h : v.items[j]? = some x) : (encVs v.items)[j]? = some (encV x) := by
  rw [encVs_map, List.getElem?_map, h]; rfl
theorem opt_some (v : Val) : optL0 (some v) = [encV v, .bool true] := rfl
theorem opt_none : optL0 none = [.agg [.int .i64 0, .int .i64 0, .str [], .nil, .nil], .bool false] := rfl
theorem s184b (s : Str) : PSpec Tryz.prog 184 [.d (.str s)] (.tup [.d (.int .i64 (if 0 ≤ stepI s then stepI s else 0)), .d (.bool (decide (0 ≤ stepI s)))]) := by
  have h := s184 s
  have e : (idxL s).map SV.d = [.d (.int .i64 (if 0 ≤ stepI s then stepI s else 0)), .d (.bool (decide (0 ≤ stepI s)))] := by
    unfold idxL
    split <;> simp_all
  rwa [e] at h
theorem idx_lt (ns : List Str) (s : Str) : idxS ns s < ns.length := by
  unfold idxS firstI
  split
  · rename_i h
    have := List.findIdx_lt_length_of_exists (xs := ns) (p := fun x => decide (s = x)) (by simpa using h)
    omega
  · omega
theorem stepI_ge (s : Str) : -1 ≤ stepI s := by unfold stepI; split <;> (try split) <;> omega
theorem may_item {v : Val} (h : mayV v = true) {x : Val} (hx : x ∈ v.items) : mayV x = true := by
  obtain ⟨k, i, t, xs, ns⟩ := v
  obtain ⟨j, hj, rfl⟩ := List.mem_iff_getElem.1 hx
  exact may_items h hj
theorem place_lt {v : Val} (h : mayV v = true) (s : Str) : placeV v s < v.items.length := by
  unfold placeV
  split
  · rename_i hk
    obtain ⟨k, i, t, xs, ns⟩ := v
    simp only [Val.kind] at hk
    subst hk
    have := idx_lt ns s
    have := may7 h
    simp only [Val.names, Val.items]
    omega
  · split
    · split <;> omega
    · omega
theorem get_may : ∀ (p : List Str) (v x : Val), mayV v = true → getV v p = some x → mayV x = true
  | [], v, x, hv, h => by simp only [getV, Option.some.injEq] at h; rw [← h]; exact hv
  | s :: p, v, x, hv, h => by
    simp only [getV] at h
    split at h
    · split at h
      · rename_i y hy
        exact get_may p y x (may_item hv (List.mem_of_getElem? hy)) h
      · cases h
    · cases h
theorem sz_item {v : Val} {j : Nat} {x : Val} (h : v.items[j]? = some x) : szV x ≤ szV v := by
  obtain ⟨k, i, t, xs, ns⟩ := v
  simp only [Val.items] at h
  obtain ⟨hj, rfl⟩ := List.getElem?_eq_some_iff.1 h
  have := szVs_get hj
  simp only [szV]; omega
/-- A part of a struct of the program's: what an entry is. -/
structure Etr where
  term : Int
  kind : Int
  coll : Str
  to : Str
  id : Val
  doc : Val
  deltas : List Dlt
  session : Int
  number : Int
def encE (e : Etr) : D := .agg ([.int .i64 e.term, .int .i64 e.kind, .str e.coll, .str e.to] ++ valCells e.id ++ valCells e.doc ++ [.sl 8 (e.deltas.map encD), .int .i64 e.session, .int .i64 e.number])
structure Flt where
  coll : Str
  path : List Str
  kinds : Int
def encF (f : Flt) : D := .agg [.str f.coll, .sl 1 (f.path.map .str), .int .i64 f.kinds]

theorem fn156 : FnOk Tryz.prog 156 31 [4] (bodyOf Tryz.f156) := ⟨Tryz.f156, Tryz.func156, by kernel_rfl, by decide, by kernel_rfl, by kernel_rfl⟩
theorem s156 (v : Val) (s : Str) : PSpec Tryz.prog 156 [.d (encV v), .d (.str s)] (.d (.int .i64 (placeV v s))) := by
 obtain ⟨kd, it, tx, xs, ns⟩ := v
 refine PSpec.of fn156 (by simp) fun o nk => ?_
 refine wr ?_
 refine u_step (g_box rfl fun o2 hb2 hk2 => ?_)
 refine ua ?_
 refine u_nil ?_
 refine WP.seq fun K3 hK3 => ?_
 refine wr ?_
 refine uf th27 th3 hb2 ?_
 refine ul th3 hb2 ?_
 refine u_nil ?_
 refine WP.block ?_
 refine wr ?_
 refine ub ?_
 refine ua ?_
 refine u_nil ?_
 refine wc (fun hc6 => ?_) (fun hc6 => ?_) <;> try simp only [Q0, Q1, Q2, Q3, Q4, Q5, Q6, Q7, Q8, ge_iff_le, gt_iff_lt] at hc6
 ·
  refine wr ?_
  refine uf th27 th22 hb2 ?_
  refine ul th22 hb2 ?_
  refine um ?_
  refine u_step (o_pcall (s183 ns s) rfl ?_)
  refine ua ?_
  refine u_nil ?_
  refine WP.ret ?_
  refine ret_ok rfl ?_ (by omega) (fun t ht => (hk2 t (by omega)))
  -- ret 1
  clear hK3
  refine congrArg (D.int .i64) ?_
  have e1 := encVs_length xs
  have e2 := stepI_ge s
  simp only [beq_iff_eq, beq_eq_false_iff_ne, ne_eq, Bool.and_eq_true, Bool.and_eq_false_iff, decide_eq_true_eq, decide_eq_false_iff_not] at hc6
  simp only [placeV, Val.kind, Val.items, Val.names]
  grind
 ·
  refine wr ?_
  refine ub ?_
  refine ua ?_
  refine u_nil ?_
  refine wc (fun hc9 => ?_) (fun hc9 => ?_) <;> try simp only [Q0, Q1, Q2, Q3, Q4, Q5, Q6, Q7, Q8, ge_iff_le, gt_iff_lt] at hc9
  ·
   refine wr ?_
   refine um ?_
   refine u_step (o_pcall (s184b s) rfl ?_)
   refine u_step (o_moveV (v := .tup _) rfl ?_)
   refine ue ?_
   refine ue ?_
   refine ua ?_
   refine ua ?_
   refine u_nil ?_
   refine wr ?_
   refine um ?_
   refine um ?_
   apply gT
   · rfl
   · intro hg
     exact pm
   apply gT
   · rfl
   · intro hg
     exact pf th27 th25 hb2
   apply gT
   · rfl
   · intro hg; try simp only [hg, ct]; try simp only [hg, ct, Bt]
     exact pl th25 hb2
   apply gT
   · rfl
   · intro hg; try simp only [hg, ct]; try simp only [hg, ct, Bt]
     exact pn th25
   apply gT
   · rfl
   · intro hg; try simp only [hg, ct]; try simp only [hg, ct, Bt]
     exact pb
   refine uA ?_
   refine u_nil ?_
   refine wc (fun hc12 => ?_) (fun hc12 => ?_) <;> try simp only [Q0, Q1, Q2, Q3, Q4, Q5, Q6, Q7, Q8, ge_iff_le, gt_iff_lt] at hc12
   ·
    refine wr ?_
    refine um ?_
    refine ua ?_
    refine u_nil ?_
    refine WP.ret ?_
    refine ret_ok rfl ?_ (by omega) (fun t ht => (hk2 t (by omega)))
    -- ret 2
    clear hK3
    refine congrArg (D.int .i64) ?_
    have e1 := encVs_length xs
    have e2 := stepI_ge s
    simp only [beq_iff_eq, beq_eq_false_iff_ne, ne_eq, Bool.and_eq_true, Bool.and_eq_false_iff, decide_eq_true_eq, decide_eq_false_iff_not] at hc6 hc9 hc12
    simp only [placeV, Val.kind, Val.items, Val.names]
    grind
   ·
    refine WP.skip ?_
    refine hK3 _ ?_
    refine wr ?_
    refine ua ?_
    refine u_nil ?_
    refine WP.ret ?_
    refine ret_ok rfl ?_ (by omega) (fun t ht => (hk2 t (by omega)))
    -- ret 3
    clear hK3
    refine congrArg (D.int .i64) ?_
    have e1 := encVs_length xs
    have e2 := stepI_ge s
    simp only [beq_iff_eq, beq_eq_false_iff_ne, ne_eq, Bool.and_eq_true, Bool.and_eq_false_iff, decide_eq_true_eq, decide_eq_false_iff_not] at hc6 hc9 hc12
    simp only [placeV, Val.kind, Val.items, Val.names]
    grind
  ·
   refine WP.skip ?_
   refine hK3 _ ?_
   refine wr ?_
   refine ua ?_
   refine u_nil ?_
   refine WP.ret ?_
   refine ret_ok rfl ?_ (by omega) (fun t ht => (hk2 t (by omega)))
   -- ret 4
   clear hK3
   refine congrArg (D.int .i64) ?_
   have e1 := encVs_length xs
   have e2 := stepI_ge s
   simp only [beq_iff_eq, beq_eq_false_iff_ne, ne_eq, Bool.and_eq_true, Bool.and_eq_false_iff, decide_eq_true_eq, decide_eq_false_iff_not] at hc6 hc9
   simp only [placeV, Val.kind, Val.items, Val.names]
   grind

theorem fn115 : FnOk Tryz.prog 115 36 [4] (bodyOf Tryz.f115) := ⟨Tryz.f115, Tryz.func115, by kernel_rfl, by decide, by kernel_rfl, by kernel_rfl⟩
theorem s115 (v : Val) (s : Str) : PSpec Tryz.prog 115 [.d (encV v), .d (.str s)] (.d (.int .i64 (placeV v s))) := by
 refine PSpec.bd fun hbd => ?_
 obtain ⟨kd, it, tx, xs, ns⟩ := v
 have hx : ns.length ≤ 9223372036854775807 := by simpa using hbd.1.2.2.2.2.1.1
 refine PSpec.of fn115 (by simp) fun o nk => ?_
 refine wr ?_
 refine u_step (g_box rfl fun o2 hb2 hk2 => ?_)
 refine ua ?_
 refine u_nil ?_
 refine WP.seq fun K3 hK3 => ?_
 refine wr ?_
 refine uf th27 th3 hb2 ?_
 refine ul th3 hb2 ?_
 refine ub ?_
 refine u_nil ?_
 refine wc (fun hc5 => ?_) (fun hc5 => ?_) <;> try simp only [Q0, Q1, Q2, Q3, Q4, Q5, Q6, Q7, Q8, ge_iff_le, gt_iff_lt] at hc5
 ·
  refine WP.seq fun K6 hK6 => ?_
  refine wr ?_
  refine um ?_
  refine u_step (o_pcall (s136 s) rfl ?_)
  refine ua ?_
  refine u_nil ?_
  refine wr ?_
  refine um ?_
  refine uf th27 th25 hb2 ?_
  refine ul th25 hb2 ?_
  refine un th25 ?_
  refine ub ?_
  refine u_nil ?_
  refine wc (fun hc9 => ?_) (fun hc9 => ?_) <;> try simp only [Q0, Q1, Q2, Q3, Q4, Q5, Q6, Q7, Q8, ge_iff_le, gt_iff_lt] at hc9
  ·
   refine wr ?_
   refine um ?_
   refine ua ?_
   refine u_nil ?_
   refine WP.ret ?_
   refine ret_ok rfl ?_ (by omega) (fun t ht => (hk2 t (by omega)))
   -- ret 1
   clear hK3 hK6
   refine congrArg (D.int .i64) ?_
   have e1 := encVs_length xs
   have e2 := stepI_ge s
   simp only [beq_iff_eq, beq_eq_false_iff_ne, ne_eq, decide_eq_true_eq, decide_eq_false_iff_not] at hc5 hc9
   simp only [placeV, Val.kind, Val.items, Val.names]
   grind
  ·
   refine WP.skip ?_
   refine hK6 _ ?_
   refine wr ?_
   refine ua ?_
   refine u_nil ?_
   refine WP.ret ?_
   refine ret_ok rfl ?_ (by omega) (fun t ht => (hk2 t (by omega)))
   -- ret 2
   clear hK3 hK6
   refine congrArg (D.int .i64) ?_
   have e1 := encVs_length xs
   have e2 := stepI_ge s
   simp only [beq_iff_eq, beq_eq_false_iff_ne, ne_eq, decide_eq_true_eq, decide_eq_false_iff_not] at hc5 hc9
   simp only [placeV, Val.kind, Val.items, Val.names]
   grind
 ·
  refine WP.skip ?_
  refine hK3 _ ?_
  refine WP.seq fun K12 hK12 => ?_
  refine wr ?_
  refine uf th27 th3 hb2 ?_
  refine ul th3 hb2 ?_
  refine ub ?_
  refine u_nil ?_
  refine wc (fun hc14 => ?_) (fun hc14 => ?_) <;> try simp only [Q0, Q1, Q2, Q3, Q4, Q5, Q6, Q7, Q8, ge_iff_le, gt_iff_lt] at hc14
  ·
   have hk : kd = 7 := by simpa using hc14
   refine wr ?_
   refine ua ?_
   refine u_nil ?_
   refine WP.block ?_
   refine WP.loopL (ι := Nat) (fun i => ⟨al [(1, .d (.str s)), (2, .loc nk 0), (6, .d (.int .i64 i))], o2, (nk + 1)⟩) (fun i => i ≤ ns.length ∧ ∀ (j : Nat) (hj : j < ns.length), j < i → decide (s = ns[j]) = false) (fun i => ns.length - i) (fun i hA => ?_) 0 ?_ ?_
   ·
    obtain ⟨hle_i, hin_i⟩ := hA
    refine WP.seq fun K16 hK16 => ?_
    refine wr ?_
    refine um ?_
    refine uf th27 th22 hb2 ?_
    refine ul th22 hb2 ?_
    refine un th22 ?_
    refine ub ?_
    refine u_nil ?_
    refine wc (fun hc18 => ?_) (fun hc18 => ?_) <;> try simp only [Q0, Q1, Q2, Q3, Q4, Q5, Q6, Q7, Q8, ge_iff_le, gt_iff_lt] at hc18
    ·
     refine WP.skip ?_
     refine hK16 _ ?_
     refine WP.seq fun K19 hK19 => ?_
     refine WP.block ?_
     refine wr ?_
     refine uf th27 th22 hb2 ?_
     refine ul th22 hb2 ?_
     refine um ?_
     first | refine u_step (o_ia_map rfl rfl th22 rfl th9 rfl (by omega) ?_) | refine u_step (o_ia_vs rfl rfl th22 rfl th9 rfl (by omega) ?_)
     refine uL th9 ?_
     refine um ?_
     refine us ?_
     refine u_nil ?_
     refine wc (fun hc21 => ?_) (fun hc21 => ?_) <;> try simp only [Q0, Q1, Q2, Q3, Q4, Q5, Q6, Q7, Q8, ge_iff_le, gt_iff_lt] at hc21
     ·
      refine wr ?_
      refine um ?_
      refine ua ?_
      refine u_nil ?_
      refine WP.ret ?_
      refine ret_ok rfl ?_ (by omega) (fun t ht => (hk2 t (by omega)))
      -- ret 3
      clear hK3 hK12 hK16 hK19
      have hl : ns[i] = s := by simpa using hc21
      refine congrArg (D.int .i64) ?_
      rw [place7 hk, idxS, firstI_at (p := fun x => decide (s = x)) (xs := ns) (i := i) (by omega) (decide_eq_true hl.symm) hin_i]
     ·
      refine WP.skip ?_
      refine hK19 _ ?_
      refine WP.reg tabOk rfl ?_
      refine um ?_
      refine ub ?_
      refine ua ?_
      refine u_nil ?_
      -- back
      refine ⟨i + 1, ⟨by omega, ?_⟩, by omega, ?_⟩
      · intro j hj h1
        by_cases h2 : j = i
        · subst h2; have hl := hc21; simp only [decide_eq_false_iff_not] at hl ⊢; exact fun e => hl e.symm
        · exact hin_i j hj (by omega)
      · refine Le.al ?_
        simp only [List.forall_mem_cons]
        exact ⟨rfl, rfl, cnt (by omega), by simp⟩
    ·
     refine WP.exit ?_
     refine hK12 _ ?_
     refine wr ?_
     refine ua ?_
     refine u_nil ?_
     refine WP.ret ?_
     refine ret_ok rfl ?_ (by omega) (fun t ht => (hk2 t (by omega)))
     -- ret 4
     clear hK3 hK12 hK16
     refine congrArg (D.int .i64) ?_
     rw [place7 hk, idxS, firstI_none (p := fun x => decide (s = x)) (xs := ns) fun j hj => hin_i j hj (by omega)]
   ·
    simp
   ·
    refine Le.al ?_
    simp only [List.forall_mem_cons]
    exact ⟨rfl, rfl, rfl, by simp⟩
  ·
   refine WP.skip ?_
   refine hK12 _ ?_
   refine wr ?_
   refine ua ?_
   refine u_nil ?_
   refine WP.ret ?_
   refine ret_ok rfl ?_ (by omega) (fun t ht => (hk2 t (by omega)))
   -- ret 5
   clear hK3 hK12
   refine congrArg (D.int .i64) ?_
   have e1 := encVs_length xs
   have e2 := stepI_ge s
   simp only [beq_iff_eq, beq_eq_false_iff_ne, ne_eq, decide_eq_true_eq, decide_eq_false_iff_not] at hc5 hc14
   simp only [placeV, Val.kind, Val.items, Val.names]
   grind

theorem fn114 : FnOkC Tryz.prog 114 34 [.cell 4 27, .tmp 5] (bodyOf Tryz.f114) := ⟨Tryz.f114, Tryz.func114, by kernel_rfl, by decide, by kernel_rfl, by kernel_rfl⟩
theorem s114a (v : Val) (p : List Str) (hsz : szV v ≤ 1099511627776) : PSpec Tryz.prog 114 [.d (encV v), .d (.sl 1 (p.map .str))] (.tup ((optL0 (getP v p)).map .d)) := by
 refine PSpec.bd fun hbd => ?_
 obtain ⟨kd, it, tx, xs, ns⟩ := v
 have hx : p.length ≤ 9223372036854775807 := by simpa using hbd.2.1.1
 refine PSpec.of2C tabOk fn114 (by simp) fun o nk => ?_
 refine wr ?_
 refine u_step (g_box rfl fun o2 hb2 hk2 => ?_)
 refine u_step (g_alloc th27 rfl fun o3 hb3 hk3 => ?_)
 have hb2_3 := (hk3 _ (by omega)).trans hb2
 refine ua ?_
 refine u_nil ?_
 refine WP.seq fun K4 hK4 => ?_
 refine wr ?_
 refine ug th27 hb2_3 ?_
 refine um ?_
 refine u_step (o_pcall (s155 (.mk kd it tx xs ns) p) rfl ?_)
 refine ub ?_
 refine u_nil ?_
 refine wc (fun hc6 => ?_) (fun hc6 => ?_) <;> try simp only [Q0, Q1, Q2, Q3, Q4, Q5, Q6, Q7, Q8, ge_iff_le, gt_iff_lt] at hc6
 ·
  refine wr ?_
  refine u_step (o_bu rfl th27 rfl rfl ?_)
  refine u_step0 (g_sta rfl rfl th27 rfl hb3 (by first | (simp; done) | (simp [D.leaves, D.width, valCells]; done) | decide) fun o8 hb8 hk8 => ?_)
  have hb2_8 := (hk8 _ (by omega)).trans hb2_3
  refine ua ?_
  refine u_nil ?_
  refine WP.ret ?_
  refine retC_ok (resis_agg rfl th27 rfl hb8 rfl rfl rfl) rfl ?_ ?_ (by omega) (fun t ht => (hk8 t (by omega)).trans ((hk3 t (by omega)).trans ((hk2 t (by omega)))))
  · rw [getP_no hc6]
  · rw [getP_no hc6]; rfl
 ·
  obtain ⟨hp, hmv⟩ := getP_yes hc6
  refine WP.skip ?_
  refine hK4 _ ?_
  refine WP.seq fun K9 hK9 => ?_
  refine wr ?_
  refine um ?_
  refine un th22 ?_
  refine um ?_
  refine u_nil ?_
  refine WP.block ?_
  refine WP.loopL (ι := Nat × Val × (Nat → Option AO)) (fun ⟨i, u, o2⟩ => ⟨al [(2, .loc nk 0), (4, .loc (nk + 1) 0), (14, .d (.sl 1 (p.map .str))), (15, .d (.int .i64 (p.map D.str).length)), (16, .d (.int .i64 i))], o2, ((nk + 1) + 1)⟩) (fun ⟨i, u, o2⟩ => i ≤ p.length ∧ o2 nk = some (.box ((valCells u).map .d)) ∧ o2 (nk + 1) = some (.box [.d (.int .i64 0), .d (.int .i64 0), .d (.str []), .d .nil, .d .nil]) ∧ (∀ t, t < nk → o2 t = o t) ∧ mayV u = true ∧ szV u ≤ 1099511627776 ∧ getV (.mk kd it tx xs ns) p = getV u (p.drop i)) (fun ⟨i, u, o2⟩ => p.length - i) (fun ⟨i, u, o2⟩ hA => ?_) ⟨0, (.mk kd it tx xs ns), o3⟩ ?_ ?_
  ·
   obtain ⟨hle, hob, hzb, hfr, hmu, hsu, hgt⟩ := hA
   refine wr ?_
   refine ub ?_
   refine u_nil ?_
   refine WP.seq fun K12 hK12 => ?_
   refine wc (fun hc13 => ?_) (fun hc13 => ?_) <;> try simp only [Q0, Q1, Q2, Q3, Q4, Q5, Q6, Q7, Q8, ge_iff_le, gt_iff_lt] at hc13
   ·
    refine WP.skip ?_
    refine hK12 _ ?_
    refine WP.seq fun K14 hK14 => ?_
    refine WP.block ?_
    refine wr ?_
    first | refine u_step (o_ia_map rfl rfl th22 rfl th9 rfl (by omega) ?_) | refine u_step (o_ia_vs rfl rfl th22 rfl th9 rfl (by omega) ?_)
    refine uL th9 ?_
    refine ua ?_
    refine u_nil ?_
    refine wr ?_
    refine ug th27 hob ?_
    refine um ?_
    refine u_step (o_pcall (pv2 (v := u) (s156 u p[i])) rfl ?_)
    refine ua ?_
    refine u_nil ?_
    refine WP.seq fun K17 hK17 => ?_
    refine wr ?_
    refine um ?_
    refine ub ?_
    refine u_nil ?_
    refine wc (fun hc19 => ?_) (fun hc19 => ?_) <;> try simp only [Q0, Q1, Q2, Q3, Q4, Q5, Q6, Q7, Q8, ge_iff_le, gt_iff_lt] at hc19
    ·
     refine wr ?_
     refine u_step (o_bu rfl th27 rfl rfl ?_)
     refine u_step0 (g_sta rfl rfl th27 rfl hzb (by first | (simp; done) | (simp [D.leaves, D.width, valCells]; done) | decide) fun o21 hb21 hk21 => ?_)
     have hob_21 := (hk21 _ (by omega)).trans hob
     refine ua ?_
     refine u_nil ?_
     refine WP.ret ?_
     refine retC_ok (resis_agg rfl th27 rfl hb21 rfl rfl rfl) rfl ?_ ?_ (by omega) (fun t ht => (hk21 t (by omega)).trans ((hfr t (by omega))))
     · rw [hp, hgt, List.drop_eq_getElem_cons (by omega), get_no (by omega)]
     · rw [hp, hgt, List.drop_eq_getElem_cons (by omega), get_no (by omega)]; rfl
    ·
     have hp0 : 0 ≤ placeV u p[i] := by omega
     have hlt := place_lt hmu p[i]
     obtain ⟨x, hx⟩ : ∃ x, u.items[(placeV u p[i]).toNat]? = some x := item_ex (xs := u.items) (j := (placeV u p[i]).toNat) (by omega)
     have hxs := sz_item hx
     refine WP.skip ?_
     refine hK17 _ ?_
     refine WP.reg tabOk rfl ?_
     refine uf th27 th25 hob ?_
     refine ul th25 hob ?_
     refine um ?_
     refine u_step (o_ia_sl (a := encV x) rfl rfl th25 rfl th27 rfl (by omega) (items_at hx) ?_)
     refine u_step (o_ld_el rfl th27 (by simp only [encV_leaf, TK.agg, Bool.not_true]) (by simp only [encV_width]) ?_)
     refine u_step0 (g_sta rfl (congrArg SV.d (encV_eq x)) th27 rfl hob (by simp [valCells]) fun o22 hb22 hk22 => ?_)
     have hzb_22 := (hk22 _ (by omega)).trans hzb
     refine u_nil ?_
     refine hK14 _ ?_
     refine WP.reg tabOk rfl ?_
     refine ub ?_
     refine um ?_
     refine u_nil ?_
     -- back
     refine ⟨⟨i + 1, x, o22⟩, ⟨by omega, hb22, hzb_22, (fun t ht => (hk22 t (by omega)).trans ((hfr t (by omega)))), may_item hmu (List.mem_of_getElem? hx), by omega, ?_⟩, by simp only; omega, ?_⟩
     · rw [hgt, List.drop_eq_getElem_cons (by omega), get_step hp0 hx]
     · refine Le.al ?_
       simp only [List.forall_mem_cons]
       exact ⟨rfl, rfl, rfl, rfl, cnt (by omega), by simp⟩
   ·
    refine WP.exit ?_
    refine hK9 _ ?_
    refine wr ?_
    refine ug th27 hob ?_
    refine u_step (o_pcall (pv (v := u) (s77 u (by omega))) rfl ?_)
    refine u_step0 (g_sta rfl (congrArg SV.d (encV_eq u)) th27 rfl hzb (by simp [valCells]) fun o24 hb24 hk24 => ?_)
    have hob_24 := (hk24 _ (by omega)).trans hob
    refine ua ?_
    refine u_nil ?_
    refine WP.ret ?_
    refine retC_ok (resis_agg rfl th27 rfl hb24 rfl rfl rfl) rfl ?_ ?_ (by omega) (fun t ht => (hk24 t (by omega)).trans ((hfr t (by omega))))
    · rw [hp, hgt, List.drop_eq_nil_of_le (by omega), getV]; exact (encV_eq u).symm
    · rw [hp, hgt, List.drop_eq_nil_of_le (by omega), getV]; rfl
  ·
   exact ⟨by omega, hb2_3, hb3, (fun t ht => (hk3 t (by omega)).trans ((hk2 t (by omega)))), hmv, hsz, rfl⟩
  ·
   refine Le.al ?_
   simp only [List.forall_mem_cons]
   exact ⟨rfl, rfl, rfl, rfl, rfl, by simp⟩

theorem fn62 : FnOkC Tryz.prog 62 29 [.cell 4 27, .tmp 5] (bodyOf Tryz.f62) := ⟨Tryz.f62, Tryz.func62, by kernel_rfl, by decide, by kernel_rfl, by kernel_rfl⟩
theorem s62a (v : Val) (p : List Str) (hm : mayV v = true) : PSpec Tryz.prog 62 [.d (encV v), .d (.sl 1 (p.map .str))] (.tup ((optL0 (getV v p)).map .d)) := by
 refine PSpec.bd fun hbd => ?_
 obtain ⟨kd, it, tx, xs, ns⟩ := v
 have hx : p.length ≤ 9223372036854775807 := by simpa using hbd.2.1.1
 refine PSpec.of2C tabOk fn62 (by simp) fun o nk => ?_
 refine wr ?_
 refine u_step (g_box rfl fun o2 hb2 hk2 => ?_)
 refine u_step (g_alloc th27 rfl fun o3 hb3 hk3 => ?_)
 have hb2_3 := (hk3 _ (by omega)).trans hb2
 refine ua ?_
 refine u_nil ?_
 refine WP.seq fun K4 hK4 => ?_
 refine wr ?_
 refine ua ?_
 refine u_nil ?_
 refine WP.block ?_
 refine WP.loopL (ι := Nat × Val × (Nat → Option AO)) (fun ⟨i, u, o2⟩ => ⟨al [(1, .d (.sl 1 (p.map .str))), (2, .loc nk 0), (4, .loc (nk + 1) 0), (6, .d (.int .i64 i))], o2, ((nk + 1) + 1)⟩) (fun ⟨i, u, o2⟩ => i ≤ p.length ∧ o2 nk = some (.box ((valCells u).map .d)) ∧ o2 (nk + 1) = some (.box [.d (.int .i64 0), .d (.int .i64 0), .d (.str []), .d .nil, .d .nil]) ∧ (∀ t, t < nk → o2 t = o t) ∧ mayV u = true ∧ getV (.mk kd it tx xs ns) p = getV u (p.drop i)) (fun ⟨i, u, o2⟩ => p.length - i) (fun ⟨i, u, o2⟩ hA => ?_) ⟨0, (.mk kd it tx xs ns), o3⟩ ?_ ?_
 ·
  obtain ⟨hle, hob, hzb, hfr, hmu, hgt⟩ := hA
  refine WP.seq fun K6 hK6 => ?_
  refine wr ?_
  refine um ?_
  refine um ?_
  refine un th22 ?_
  refine ub ?_
  refine u_nil ?_
  refine wc (fun hc8 => ?_) (fun hc8 => ?_) <;> try simp only [Q0, Q1, Q2, Q3, Q4, Q5, Q6, Q7, Q8, ge_iff_le, gt_iff_lt] at hc8
  ·
   refine WP.skip ?_
   refine hK6 _ ?_
   refine WP.seq fun K9 hK9 => ?_
   refine WP.block ?_
   refine wd ?_
   refine dg th27 hob ?_
   refine dm ?_
   refine dm ?_
   first | refine d_step (o_ia_map rfl rfl th22 rfl th9 rfl (by omega) ⟨rfl, rfl, rfl⟩) ?_ | refine d_step (o_ia_vs rfl rfl th22 rfl th9 rfl (by omega) ⟨rfl, rfl, rfl⟩) ?_
   refine dL th9 ?_
   refine d_step (o_pcall (pv2 (v := u) (s115 u p[i])) rfl ⟨rfl, rfl, rfl⟩) ?_
   refine da ?_
   refine d_nil ?_
   refine WP.seq fun K11 hK11 => ?_
   refine wr ?_
   refine um ?_
   refine ub ?_
   refine u_nil ?_
   refine wc (fun hc13 => ?_) (fun hc13 => ?_) <;> try simp only [Q0, Q1, Q2, Q3, Q4, Q5, Q6, Q7, Q8, ge_iff_le, gt_iff_lt] at hc13
   ·
    refine wr ?_
    refine u_step (o_bu rfl th27 rfl rfl ?_)
    refine u_step0 (g_sta rfl rfl th27 rfl hzb (by first | (simp; done) | (simp [D.leaves, D.width, valCells]; done) | decide) fun o15 hb15 hk15 => ?_)
    have hob_15 := (hk15 _ (by omega)).trans hob
    refine ua ?_
    refine u_nil ?_
    refine WP.ret ?_
    refine retC_ok (resis_agg rfl th27 rfl hb15 rfl rfl rfl) rfl ?_ ?_ (by omega) (fun t ht => (hk15 t (by omega)).trans ((hfr t (by omega))))
    · rw [hgt, List.drop_eq_getElem_cons (by omega), get_no (by omega)]
    · rw [hgt, List.drop_eq_getElem_cons (by omega), get_no (by omega)]; rfl
   ·
    have hp0 : 0 ≤ placeV u p[i] := by omega
    have hlt := place_lt hmu p[i]
    obtain ⟨x, hx⟩ : ∃ x, u.items[(placeV u p[i]).toNat]? = some x := item_ex (xs := u.items) (j := (placeV u p[i]).toNat) (by omega)
    refine WP.skip ?_
    refine hK11 _ ?_
    refine WP.reg tabOk rfl ?_
    refine uf th27 th25 hob ?_
    refine ul th25 hob ?_
    refine um ?_
    refine u_step (o_ia_sl (a := encV x) rfl rfl th25 rfl th27 rfl (by omega) (items_at hx) ?_)
    refine u_step (o_ld_el rfl th27 (by simp only [encV_leaf, TK.agg, Bool.not_true]) (by simp only [encV_width]) ?_)
    refine u_step0 (g_sta rfl (congrArg SV.d (encV_eq x)) th27 rfl hob (by simp [valCells]) fun o16 hb16 hk16 => ?_)
    have hzb_16 := (hk16 _ (by omega)).trans hzb
    refine u_nil ?_
    refine hK9 _ ?_
    refine WP.reg tabOk rfl ?_
    refine um ?_
    refine ub ?_
    refine ua ?_
    refine u_nil ?_
    -- back
    refine ⟨⟨i + 1, x, o16⟩, ⟨by omega, hb16, hzb_16, (fun t ht => (hk16 t (by omega)).trans ((hfr t (by omega)))), may_item hmu (List.mem_of_getElem? hx), ?_⟩, by simp only; omega, ?_⟩
    · rw [hgt, List.drop_eq_getElem_cons (by omega), get_step hp0 hx]
    · refine Le.al ?_
      simp only [List.forall_mem_cons]
      exact ⟨rfl, rfl, rfl, cnt (by omega), by simp⟩
  ·
   refine WP.exit ?_
   refine hK4 _ ?_
   refine wr ?_
   refine ug th27 hob ?_
   refine u_step0 (g_sta rfl rfl th27 rfl hzb (by first | (simp; done) | (simp [D.leaves, D.width, valCells]; done) | decide) fun o18 hb18 hk18 => ?_)
   have hob_18 := (hk18 _ (by omega)).trans hob
   refine ua ?_
   refine u_nil ?_
   refine WP.ret ?_
   refine retC_ok (resis_agg rfl th27 rfl hb18 rfl rfl rfl) rfl ?_ ?_ (by omega) (fun t ht => (hk18 t (by omega)).trans ((hfr t (by omega))))
   · rw [hgt, List.drop_eq_nil_of_le (by omega), getV]; exact (encV_eq u).symm
   · rw [hgt, List.drop_eq_nil_of_le (by omega), getV]; rfl
 ·
  exact ⟨by omega, hb2_3, hb3, (fun t ht => (hk3 t (by omega)).trans ((hk2 t (by omega)))), hm, rfl⟩
 ·
  refine Le.al ?_
  simp only [List.forall_mem_cons]
  exact ⟨rfl, rfl, rfl, rfl, by simp⟩

theorem s114 (v : Val) (p : List Str) (hsz : szV v ≤ 1099511627776) : PSpec Tryz.prog 114 [.d (encV v), .d (.sl 1 (p.map .str))] (.tup ((optL (getP v p)).map .d)) := (s114a v p hsz).leT (opt_le _)
theorem s62 (v : Val) (p : List Str) (hm : mayV v = true) : PSpec Tryz.prog 62 [.d (encV v), .d (.sl 1 (p.map .str))] (.tup ((optL (getV v p)).map .d)) := (s62a v p hm).leT (opt_le _)
end Go.Proofs.YtpkcbdhjnnnkbaaGreat.Abs

set_option linter.unusedVariables false
set_option linter.unusedSimpArgs false
set_option maxRecDepth 10000
namespace Go.Proofs.YtpkcbdhjnnnkbaaGreat.Abs
open Go
def idS : Str := [95, 105, 100]
def idK : List Str := [[95, 105, 100]]
/-- May a document be inserted by an id? -/
noncomputable def mayDocV (v id : Val) : Bool := decide (v.kind = 7 ∧ checkV v = 0 ∧ getV v idK = some id)
theorem check_may {v : Val} (h : checkV v = 0) : mayV v = true := by
  unfold checkV at h
  split at h
  · cases h
  · rename_i hm; simpa using hm
theorem path_id : pathV idK = true := by decide
theorem getP_id {v : Val} (h7 : v.kind = 7) (hc : checkV v = 0) : getP v idK = getV v idK := by
  unfold getP; rw [if_pos ⟨h7, check_may hc, path_id⟩]
theorem mayDoc_l {v id : Val} (hi : mayV id = true) : ((getP v idK).isSome && decide (checkV v = 0) && decide (compV ((getP v idK).getD zeroV) id = 0)) = mayDocV v id := by
  rw [Bool.eq_iff_iff]
  simp only [Bool.and_eq_true, decide_eq_true_eq, mayDocV]
  constructor
  · rintro ⟨⟨h1, h2⟩, h3⟩
    have h7 : v.kind = 7 := by
      unfold getP at h1
      split at h1
      · rename_i h; exact h.1
      · cases h1
    rw [getP_id h7 h2] at h1 h3
    obtain ⟨x, hx⟩ := Option.isSome_iff_exists.1 h1
    have hm := get_may idK v x (check_may h2) hx
    rw [hx] at h3
    have := comp_same hm hi
    simp only [Option.getD_some] at h3
    rw [decide_eq_true h3] at this
    exact ⟨h7, h2, by rw [hx, same_eq.1 this.symm]⟩
  · rintro ⟨h7, h2, h3⟩
    rw [getP_id h7 h2, h3]
    refine ⟨⟨rfl, h2⟩, ?_⟩
    have := comp_same hi hi
    rw [same_refl] at this
    simpa using this
theorem refDoc_l {v id : Val} (h7 : v.kind = 7) (hc : checkV v = 0) : ((getV v idK).isSome && sameV ((getV v idK).getD zeroV) id) = mayDocV v id := by
  unfold mayDocV
  rw [Bool.eq_iff_iff]
  simp only [Bool.and_eq_true, decide_eq_true_eq, same_eq, h7, hc, true_and]
  cases getV v idK with
  | none => simp
  | some y => simp
/-- May changes be an update's? -/
def mayDeltasV (l : List Dlt) : Bool := decide (checkD l = 0) && freeD l && l.all fun d => !decide (d.path[0]? = some idS)
theorem checkD_all {l : List Dlt} (h : checkD l = 0) : ∀ d ∈ l, mayD d = true := by
  unfold checkD at h
  split at h
  · cases h
  · split at h
    · rename_i h1; exact List.all_eq_true.1 h1
    · cases h
theorem mayD_path {d : Dlt} (h : mayD d = true) : 0 < d.path.length := by
  unfold mayD pathV at h
  simp only [Bool.and_eq_true, decide_eq_true_eq] at h
  omega

theorem fn173 : FnOkC Tryz.prog 173 9 [.cell 2 27, .tmp 3] (bodyOf Tryz.f173) := ⟨Tryz.f173, Tryz.func173, by kernel_rfl, by decide, by kernel_rfl, by kernel_rfl⟩
theorem s173 (v : Val) (hsz : szV v ≤ 1099511627776) : PSpec Tryz.prog 173 [.d (encV v)] (.tup ((optL (getP v idK)).map .d)) := by
 obtain ⟨kd, it, tx, xs, ns⟩ := v
 refine PSpec.of2C tabOk fn173 (by simp) fun o nk => ?_
 refine wr ?_
 refine u_step (g_box rfl fun o2 hb2 hk2 => ?_)
 refine u_step (g_alloc th27 rfl fun o3 hb3 hk3 => ?_)
 have hb2_3 := (hk3 _ (by omega)).trans hb2
 refine ua ?_
 refine u_nil ?_
 refine wr ?_
 refine ug th27 hb2_3 ?_
 refine u_step (o_bs rfl th22 rfl th9 rfl rfl (by decide) rfl (by decide) (by decide) ?_)
 refine u_step (o_pcall (s114 (.mk kd it tx xs ns) idK hsz) rfl ?_)
 refine ue ?_
 refine ue ?_
 refine u_step0 (g_sta rfl (congrArg SV.d (encV_eq _)) th27 rfl hb3 (by simp [valCells]) fun o5 hb5 hk5 => ?_)
 have hb2_5 := (hk5 _ (by omega)).trans hb2_3
 refine ua ?_
 refine u_nil ?_
 refine WP.ret ?_
 refine retC_ok (resis_agg rfl th27 rfl hb5 rfl rfl rfl) rfl ?_ ?_ (by omega) (fun t ht => (hk5 t (by omega)).trans ((hk3 t (by omega)).trans ((hk2 t (by omega)))))
 · exact (encV_eq _).symm
 · rfl

theorem fn148 : FnOk Tryz.prog 148 23 [4] (bodyOf Tryz.f148) := ⟨Tryz.f148, Tryz.func148, by kernel_rfl, by decide, by kernel_rfl, by kernel_rfl⟩
theorem s148 (v id : Val) (hr : rngV v) (hsz : szV v ≤ 1099511627776) (hi : mayV id = true) : PSpec Tryz.prog 148 [.d (encV v), .d (encV id)] (.d (.bool (mayDocV v id))) := by
 obtain ⟨kd, it, tx, xs, ns⟩ := v
 obtain ⟨kd2, it2, tx2, ys, ms⟩ := id
 refine PSpec.of fn148 (by simp) fun o nk => ?_
 refine wr ?_
 refine u_step (g_box rfl fun o2 hb2 hk2 => ?_)
 refine u_step (g_box rfl fun o3 hb3 hk3 => ?_)
 have hb2_3 := (hk3 _ (by omega)).trans hb2
 refine ua ?_
 refine u_nil ?_
 refine wr ?_
 refine ug th27 hb2_3 ?_
 refine u_step (o_pcall (s173 (.mk kd it tx xs ns) hsz) rfl ?_)
 refine u_step (o_moveV (v := .tup _) rfl ?_)
 refine ue ?_
 refine ue ?_
 refine u_step (g_alloc th27 rfl fun o5 hb5 hk5 => ?_)
 have hb2_5 := (hk5 _ (by omega)).trans hb2_3
 have hb3_5 := (hk5 _ (by omega)).trans hb3
 refine u_step0 (g_sta rfl (congrArg SV.d (encV_eq _)) th27 rfl hb5 (by simp [valCells]) fun o6 hb6 hk6 => ?_)
 have hb2_6 := (hk6 _ (by omega)).trans hb2_5
 have hb3_6 := (hk6 _ (by omega)).trans hb3_5
 refine ua ?_
 refine u_nil ?_
 refine wr ?_
 refine um ?_
 refine um ?_
 apply gT
 · rfl
 · intro hg
   exact pg th27 hb2_6
 apply gT
 · rfl
 · intro hg; try simp only [hg, ct]; try simp only [hg, ct, Bt]
   refine o_pcall (s123 (.mk kd it tx xs ns) hr hsz) rfl ⟨rfl, rfl, rfl⟩
 apply gT
 · rfl
 · intro hg; try simp only [hg, ct]; try simp only [hg, ct, Bt]
   exact pb
 refine uA ?_
 refine um ?_
 apply gT
 · rfl
 · intro hg
   exact pg th27 hb6
 apply gT
 · rfl
 · intro hg
   exact pg th27 hb3_6
 apply gT
 · rfl
 · intro hg; try simp only [hg, ct]; try simp only [hg, ct, Bt]
   refine o_pcall (pv2 (v := (getP (.mk kd it tx xs ns) idK).getD zeroV) (s172 _ (.mk kd2 it2 tx2 ys ms))) rfl ⟨rfl, rfl, rfl⟩
 refine uA ?_
 refine ua ?_
 refine u_nil ?_
 refine WP.ret ?_
 refine ret_ok rfl ?_ (by omega) (fun t ht => (hk6 t (by omega)).trans ((hk5 t (by omega)).trans ((hk3 t (by omega)).trans ((hk2 t (by omega))))))
 -- ret 1
 refine congrArg D.bool ?_
 exact mayDoc_l hi

theorem fn67 : FnOk Tryz.prog 67 27 [4] (bodyOf Tryz.f67) := ⟨Tryz.f67, Tryz.func67, by kernel_rfl, by decide, by kernel_rfl, by kernel_rfl⟩
theorem s67 (v id : Val) (hr : rngV v) (hsz : szV v ≤ 1099511627776) : PSpec Tryz.prog 67 [.d (encV v), .d (encV id)] (.d (.bool (mayDocV v id))) := by
 obtain ⟨kd, it, tx, xs, ns⟩ := v
 obtain ⟨kd2, it2, tx2, ys, ms⟩ := id
 refine PSpec.of fn67 (by simp) fun o nk => ?_
 refine wr ?_
 refine u_step (g_box rfl fun o2 hb2 hk2 => ?_)
 refine u_step (g_box rfl fun o3 hb3 hk3 => ?_)
 have hb2_3 := (hk3 _ (by omega)).trans hb2
 refine ua ?_
 refine u_nil ?_
 refine WP.seq fun K4 hK4 => ?_
 refine wr ?_
 refine uf th27 th3 hb2_3 ?_
 refine ul th3 hb2_3 ?_
 refine ub ?_
 refine um ?_
 apply gF
 · rfl
 · intro hg
   exact pg th27 hb2_3
 apply gF
 · rfl
 · intro hg; try simp only [hg, ct]; try simp only [hg, ct, Bt]
   refine o_pcall (s66 (.mk kd it tx xs ns) hr hsz) rfl ⟨rfl, rfl, rfl⟩
 apply gF
 · rfl
 · intro hg; try simp only [hg, ct]; try simp only [hg, ct, Bt]
   exact pb
 refine uO ?_
 refine u_nil ?_
 refine wc (fun hc6 => ?_) (fun hc6 => ?_) <;> try simp only [Q0, Q1, Q2, Q3, Q4, Q5, Q6, Q7, Q8, ge_iff_le, gt_iff_lt] at hc6
 ·
  refine wr ?_
  refine ua ?_
  refine u_nil ?_
  refine WP.ret ?_
  refine ret_ok rfl ?_ (by omega) (fun t ht => (hk3 t (by omega)).trans ((hk2 t (by omega))))
  -- ret 1
  clear hK4
  refine congrArg D.bool (decide_eq_false ?_).symm
  have hq := hc6
  rintro ⟨h1, h2, h3⟩
  have h1 : kd = 7 := h1
  subst h1; simp [h2] at hq
 ·
  have hq : kd = 7 ∧ checkV (.mk kd it tx xs ns) = 0 := by simpa using hc6
  refine WP.skip ?_
  refine hK4 _ ?_
  refine wr ?_
  refine ug th27 hb2_3 ?_
  refine u_step (o_bs rfl th22 rfl th9 rfl rfl (by decide) rfl (by decide) (by decide) ?_)
  refine u_step (o_pcall (s62 (.mk kd it tx xs ns) idK (check_may hq.2)) rfl ?_)
  refine u_step (o_moveV (v := .tup _) rfl ?_)
  refine ue ?_
  refine ue ?_
  refine u_step (g_alloc th27 rfl fun o9 hb9 hk9 => ?_)
  have hb2_9 := (hk9 _ (by omega)).trans hb2_3
  have hb3_9 := (hk9 _ (by omega)).trans hb3
  refine u_step0 (g_sta rfl (congrArg SV.d (encV_eq _)) th27 rfl hb9 (by simp [valCells]) fun o10 hb10 hk10 => ?_)
  have hb2_10 := (hk10 _ (by omega)).trans hb2_9
  have hb3_10 := (hk10 _ (by omega)).trans hb3_9
  refine ua ?_
  refine u_nil ?_
  refine wr ?_
  refine um ?_
  refine um ?_
  apply gT
  · rfl
  · intro hg
    exact pg th27 hb10
  apply gT
  · rfl
  · intro hg
    exact pg th27 hb3_10
  apply gT
  · rfl
  · intro hg; try simp only [hg, ct]; try simp only [hg, ct, Bt]
    refine o_pcall (pv2 (v := (getV (.mk kd it tx xs ns) idK).getD zeroV) (s30 _ (.mk kd2 it2 tx2 ys ms))) rfl ⟨rfl, rfl, rfl⟩
  refine uA ?_
  refine ua ?_
  refine u_nil ?_
  refine WP.ret ?_
  refine ret_ok rfl ?_ (by omega) (fun t ht => (hk10 t (by omega)).trans ((hk9 t (by omega)).trans ((hk3 t (by omega)).trans ((hk2 t (by omega))))))
  -- ret 2
  refine congrArg D.bool ?_
  exact refDoc_l (v := (.mk kd it tx xs ns)) hq.1 hq.2

theorem fn174 : FnOk Tryz.prog 174 8 [2] (bodyOf Tryz.f174) := ⟨Tryz.f174, Tryz.func174, by kernel_rfl, by decide, by kernel_rfl, by kernel_rfl⟩
theorem s174 (d : Dlt) (hp : 0 < d.path.length) : PSpec Tryz.prog 174 [.d (encD d)] (.d (.bool (decide (d.path[0]? = some idS)))) := by
 refine PSpec.of fn174 (by simp) fun o nk => ?_
 refine wr ?_
 refine u_step (g_box rfl fun o2 hb2 hk2 => ?_)
 refine ua ?_
 refine u_nil ?_
 refine wr ?_
 refine uf th83 th22 hb2 ?_
 refine ul th22 hb2 ?_
 refine u_step (o_ia_sl (a := D.str (d.path[0]'hp)) rfl rfl th22 rfl th9 rfl (by decide) (by simp [hp]) ?_)
 refine uL th9 ?_
 refine u_step (o_bin_str rfl (show _ = SV.d (.str [95, 105, 100]) from rfl) rfl ?_)
 refine ua ?_
 refine u_nil ?_
 refine WP.ret ?_
 refine ret_ok rfl ?_ (by omega) (fun t ht => (hk2 t (by omega)))
 -- ret 1
 refine congrArg D.bool ?_
 rw [Bool.eq_iff_iff]
 simp [idS, List.getElem?_eq_getElem hp]

theorem fn149 : FnOk Tryz.prog 149 17 [2] (bodyOf Tryz.f149) := ⟨Tryz.f149, Tryz.func149, by kernel_rfl, by decide, by kernel_rfl, by kernel_rfl⟩
theorem s149 (l : List Dlt) (hl : l.length ≤ 64 → ∀ d ∈ l, okD d) : PSpec Tryz.prog 149 [.d (.sl 8 (l.map encD))] (.d (.bool (mayDeltasV l))) := by
 refine PSpec.of fn149 (by simp) fun o nk => ?_
 refine wr ?_
 refine ua ?_
 refine u_nil ?_
 refine wr ?_
 refine u_step (o_assignV (v := .clo _ _ _) rfl ?_)
 refine u_nil ?_
 refine wr ?_
 refine um ?_
 refine u_step (o_pcall (s72 l hl) rfl ?_)
 refine ub ?_
 refine um ?_
 apply gT
 · rfl
 · intro hg
   exact pm
 apply gT
 · rfl
 · intro hg; try simp only [hg, ct]; try simp only [hg, ct, Bt]
   refine o_pcall (s71 l) rfl ⟨rfl, rfl, rfl⟩
 refine uA ?_
 refine um ?_
 apply gT
 · rfl
 · intro hg
   exact pm
 apply gT
 · rfl
 · intro hg
   refine o_moveV (v := .clo _ _ _) rfl ⟨rfl, rfl, rfl⟩
 apply gT
 · rfl
 · intro hg; try simp only [hg, ct]; try simp only [hg, ct, Bt]
   have hg2 := hg; try simp only [Q0, Q1, Q2, Q3, Q4, Q5, Q6, Q9, Qa, Qb, Qc, Qd] at hg2
   refine o_scall (s121 l 174 [] [] (fun d => decide (d.path[0]? = some idS)) (fun x hx => s174 x (mayD_path (checkD_all hg2.1 x hx)) _ _)) rfl ⟨rfl, rfl, rfl⟩
 apply gT
 · rfl
 · intro hg; try simp only [hg, ct]; try simp only [hg, ct, Bt]
   exact pN
 refine uA ?_
 refine ua ?_
 refine u_nil ?_
 refine WP.ret ?_
 refine ret_ok rfl ?_ (by omega) (fun _ _ => rfl)
 -- ret 1
 refine congrArg D.bool ?_
 simp only [mayDeltasV]
 rw [show (l.all fun d => !decide (d.path[0]? = some idS)) = !(l.any fun d => decide (d.path[0]? = some idS)) from by rw [List.all_eq_not_any_not]; simp]
 rfl

theorem fn68 : FnOk Tryz.prog 68 26 [2] (bodyOf Tryz.f68) := ⟨Tryz.f68, Tryz.func68, by kernel_rfl, by decide, by kernel_rfl, by kernel_rfl⟩
theorem s68 (l : List Dlt) (hl : l.length ≤ 64 → ∀ d ∈ l, okD d) : PSpec Tryz.prog 68 [.d (.sl 8 (l.map encD))] (.d (.bool (mayDeltasV l))) := by
 refine PSpec.bd fun hbd => ?_
 have hx : l.length ≤ 9223372036854775807 := by simpa using hbd.1.1
 refine PSpec.of fn68 (by simp) fun o nk => ?_
 refine wr ?_
 refine ua ?_
 refine u_nil ?_
 refine WP.seq fun K2 hK2 => ?_
 refine wr ?_
 refine um ?_
 refine u_step (o_pcall (s31 l hl) rfl ?_)
 refine ub ?_
 refine um ?_
 apply gF
 · rfl
 · intro hg
   exact pm
 apply gF
 · rfl
 · intro hg; try simp only [hg, ct]; try simp only [hg, ct, Bt]
   refine o_pcall (s118 l) rfl ⟨rfl, rfl, rfl⟩
 apply gF
 · rfl
 · intro hg; try simp only [hg, ct]; try simp only [hg, ct, Bt]
   exact pN
 refine uO ?_
 refine u_nil ?_
 refine wc (fun hc4 => ?_) (fun hc4 => ?_) <;> try simp only [Q0, Q1, Q2, Q3, Q4, Q5, Q6, Q7, Q8, ge_iff_le, gt_iff_lt] at hc4
 ·
  refine wr ?_
  refine ua ?_
  refine u_nil ?_
  refine WP.ret ?_
  refine ret_ok rfl ?_ (by omega) (fun _ _ => rfl)
  -- ret 1
  refine congrArg D.bool ?_
  have hq := hc4
  simp only [mayDeltasV]
  try simp only [Bool.or_eq_true, Bool.not_eq_true', bne_iff_ne, ne_eq] at hq
  rcases hq with h | h
  · simp [h]
  · simp [h]
 ·
  have hq : checkD l = 0 ∧ freeD l = true := by simpa using hc4
  refine WP.skip ?_
  refine hK2 _ ?_
  refine WP.seq fun K6 hK6 => ?_
  refine wr ?_
  refine ua ?_
  refine u_nil ?_
  refine WP.block ?_
  refine WP.loopL (ι := Nat) (fun i => ⟨al [(0, .d (.sl 8 (l.map encD))), (3, .d (.int .i64 i))], o, nk⟩) (fun i => i ≤ l.length ∧ (l.take i).all (fun d => !decide (d.path[0]? = some idS)) = true) (fun i => l.length - i) (fun i hA => ?_) 0 ?_ ?_
  ·
   obtain ⟨hle_i, hin_i⟩ := hA
   refine WP.seq fun K8 hK8 => ?_
   refine wr ?_
   refine um ?_
   refine um ?_
   refine un th28 ?_
   refine ub ?_
   refine u_nil ?_
   refine wc (fun hc10 => ?_) (fun hc10 => ?_) <;> try simp only [Q0, Q1, Q2, Q3, Q4, Q5, Q6, Q7, Q8, ge_iff_le, gt_iff_lt] at hc10
   ·
    have hp := mayD_path (checkD_all hq.1 l[i] (List.getElem_mem _))
    refine WP.skip ?_
    refine hK8 _ ?_
    refine WP.seq fun K11 hK11 => ?_
    refine WP.block ?_
    refine wr ?_
    refine um ?_
    refine um ?_
    first | refine u_step (o_ia_map rfl rfl th28 rfl th83 rfl (by omega) ?_) | refine u_step (o_ia_vs rfl rfl th28 rfl th83 rfl (by omega) ?_)
    refine uF th83 th22 ?_
    refine uL th22 ?_
    refine u_step (o_ia_sl (a := D.str (l[i].path[0]'hp)) rfl rfl th22 rfl th9 rfl (by decide) (by simp [hp]) ?_)
    refine uL th9 ?_
    refine u_step (o_bin_str rfl (show _ = SV.d (.str [95, 105, 100]) from rfl) rfl ?_)
    refine u_nil ?_
    refine wc (fun hc13 => ?_) (fun hc13 => ?_) <;> try simp only [Q0, Q1, Q2, Q3, Q4, Q5, Q6, Q7, Q8, ge_iff_le, gt_iff_lt] at hc13
    ·
     refine wr ?_
     refine ua ?_
     refine u_nil ?_
     refine WP.ret ?_
     refine ret_ok rfl ?_ (by omega) (fun _ _ => rfl)
     -- ret 2
     refine congrArg D.bool ?_
     have hq2 : l[i].path[0]'hp = [95, 105, 100] := by simpa using hc13
     simp only [mayDeltasV, hq.1, hq.2]
     rw [all_false (p := fun d : Dlt => !decide (d.path[0]? = some idS)) (by omega : i < l.length) (by simp [idS, List.getElem?_eq_getElem hp, hq2])]
     simp
    ·
     refine WP.skip ?_
     refine hK11 _ ?_
     refine WP.reg tabOk rfl ?_
     refine um ?_
     refine ub ?_
     refine ua ?_
     refine u_nil ?_
     -- back
     refine ⟨i + 1, ⟨by omega, ?_⟩, by omega, ?_⟩
     · rw [all_snoc (by omega), hin_i]
       have hq2 : ¬ (l[i].path[0]'hp = [95, 105, 100]) := by simpa using hc13
       simp [idS, List.getElem?_eq_getElem hp, hq2]
     · refine Le.al ?_
       simp only [List.forall_mem_cons]
       exact ⟨rfl, cnt (by omega), by simp⟩
   ·
    refine WP.exit ?_
    refine hK6 _ ?_
    refine wr ?_
    refine ua ?_
    refine u_nil ?_
    refine WP.ret ?_
    refine ret_ok rfl ?_ (by omega) (fun _ _ => rfl)
    -- ret 3
    refine congrArg D.bool ?_
    simp only [mayDeltasV, hq.1, hq.2]
    rw [all_true (by omega) hin_i]
    simp
  ·
   simp
  ·
   refine Le.al ?_
   simp only [List.forall_mem_cons]
   exact ⟨rfl, rfl, by simp⟩

end Go.Proofs.YtpkcbdhjnnnkbaaGreat.Abs

set_option linter.unusedVariables false
set_option linter.unusedSimpArgs false
set_option maxRecDepth 10000
namespace Go.Proofs.YtpkcbdhjnnnkbaaGreat.Abs
open Go
theorem o_ia_ar {P : Program} {Θ : Tab} {K : SV → (Nat → Option AO) → Nat → Prop} {sl : Nat → SV} {o : Nat → Option AO} {nk : Nat} {x ix : Operand} {t e : Nat} {i j : TI} {q g c : Nat} {cs : List SV} {k : IntKind} {m : Int} (hx : ev sl x = .loc q g) (hy : ev sl ix = .d (.int k m)) (hi : Θ t = some i) (hk : i.k = .arr c e) (hj : Θ e = some j) (ho : o q = some (.box cs)) (h0 : 0 ≤ m) (hlt : m.toNat < c) (h : K (.loc q (g + m.toNat * j.sz)) o nk) : vOp P Θ (.indexAddr t x ix) ⟨sl, o, nk⟩ K := o_ia_arr hx hy hi hk hj h0 hlt ho h
def setA : Nat → List D
  | 0 => List.replicate 256 (.bool false)
  | 1 => (List.replicate 256 (.bool false)).set 36 (.bool true)
  | _ => ((List.replicate 256 (.bool false)).set 36 (.bool true)).set 0 (.bool true)
theorem setA_at {c : Nat} (h : c < 256) : ((setA 2).map SV.d)[c]? = some (.d (.bool (decide (c = 36 ∨ c = 0)))) := by
  simp only [setA, List.getElem?_map, List.getElem?_set, List.getElem?_replicate, List.length_set, List.length_replicate]
  by_cases h0 : c = 0
  · subst h0; simp
  · by_cases h36 : c = 36
    · subst h36; simp
    · have a : ¬ 0 = c := by omega
      have b : ¬ 36 = c := by omega
      simp [h, h0, h36, a, b]
def validR (c : Int) : Bool := decide (0 ≤ c ∧ c < 55296) || decide (57343 < c ∧ c ≤ 1114111)
theorem enc_last {c : Int} (h : 128 ≤ c) (hv : validR c = true) : ∃ m, (Utf8.encode c).data.toList.length = m + 1 ∧ 1 ≤ m ∧ 128 ≤ bAt (Utf8.encode c).data.toList m := by
  have h4 := encode_len4 c
  have hv' : Utf8.valid c = true := by
    simp only [validR, Bool.or_eq_true, decide_eq_true_eq] at hv
    simp only [Utf8.valid, Bool.or_eq_true, Bool.and_eq_true, decide_eq_true_eq]
    rcases hv with ⟨h1, h2⟩ | ⟨h1, h2⟩
    · exact .inl ⟨h1, h2⟩
    · exact .inr ⟨by omega, h2⟩
  have hb : ∀ n : Nat, 128 ≤ (UInt8.ofNat (128 + n % 64)).toNat := fun n => by
    rw [UInt8.toNat_ofNat']; omega
  unfold Utf8.encode
  rw [if_pos hv']
  simp only
  split
  · omega
  · split
    · refine ⟨1, rfl, by omega, ?_⟩
      have := hb c.toNat
      show (128 : Int) ≤ ((UInt8.ofNat (128 + c.toNat % 64)).toNat : Int)
      omega
    · split
      · refine ⟨2, rfl, by omega, ?_⟩
        have := hb c.toNat
        show (128 : Int) ≤ ((UInt8.ofNat (128 + c.toNat % 64)).toNat : Int)
        omega
      · refine ⟨3, rfl, by omega, ?_⟩
        have := hb c.toNat
        show (128 : Int) ≤ ((UInt8.ofNat (128 + c.toNat % 64)).toNat : Int)
        omega
def s2 : Str := [36, 0]
/-- Where a rune stands in the two signs that no name has. -/
def runeI (c : Int) : Int := if c = 36 then 0 else if c = 0 then 1 else -1
theorem idx2 {c : Int} (h0 : 0 ≤ c) (h : c < 128) : Go.Lib.indexByte [36, 0] (IntKind.u8.wrap c).toNat.toUInt8 = runeI c := by
  obtain ⟨n, rfl⟩ := Int.eq_ofNat_of_zero_le h0
  have e : (IntKind.u8.wrap (n : Int)).toNat = n := by rw [wrap_u8]; omega
  rw [e]
  have h1 : ∀ m : Nat, m < 128 → Go.Lib.indexByte [36, 0] m.toUInt8 = runeI (m : Int) := by decide
  exact h1 n (by omega)
theorem dec2 {i : Nat} (h : i < 2) : (Utf8.decode ⟨([36, 0] : Str).toArray⟩ i).1 < 128 := by
  rcases (show i = 0 ∨ i = 1 by omega) with rfl | rfl <;> decide

theorem fn195 : FnOk Tryz.prog 195 8 [4] (bodyOf Tryz.f195) := ⟨Tryz.f195, Tryz.func195, by kernel_rfl, by decide, by kernel_rfl, by kernel_rfl⟩
theorem s195 (s : Str) (c : Int) : PSpec Tryz.prog 195 [.d (.str s), .d (.int .u8 c)] (.d (.int .i64 (Go.Lib.indexByte s c.toNat.toUInt8))) := by
 refine PSpec.of fn195 (by simp) fun o nk => ?_
 refine wr ?_
 refine ua ?_
 refine u_nil ?_
 refine wr ?_
 refine um ?_
 refine um ?_
 refine u_step (o_pcall (s203 _ _) rfl ?_)
 refine ua ?_
 refine u_nil ?_
 refine WP.ret ?_
 refine ret_ok rfl ?_ (by omega) (fun _ _ => rfl)
 -- ret 1
 rfl

theorem fn196 : FnOk Tryz.prog 196 17 [2] (bodyOf Tryz.f196) := ⟨Tryz.f196, Tryz.func196, by kernel_rfl, by decide, by kernel_rfl, by kernel_rfl⟩
theorem s196 (c : Int) : PSpec Tryz.prog 196 [.d (.int .i32 c)] (.d (.bool (validR c))) := by
 refine PSpec.of fn196 (by simp) fun o nk => ?_
 refine wr ?_
 refine ua ?_
 refine u_nil ?_
 refine WP.seq fun K2 hK2 => ?_
 refine WP.block ?_
 refine wr ?_
 refine um ?_
 refine ub ?_
 refine um ?_
 apply gT
 · rfl
 · intro hg
   exact pm
 apply gT
 · rfl
 · intro hg; try simp only [hg, ct]; try simp only [hg, ct, Bt]
   exact pb
 refine uA ?_
 refine ua ?_
 refine u_nil ?_
 refine wc (fun hc4 => ?_) (fun hc4 => ?_) <;> try simp only [Q0, Q1, Q2, Q3, Q4, Q5, Q6, Q7, Q8, ge_iff_le, gt_iff_lt] at hc4
 ·
  refine wr ?_
  refine ua ?_
  refine u_nil ?_
  refine WP.ret ?_
  refine ret_ok rfl ?_ (by omega) (fun _ _ => rfl)
  -- ret 1
  refine congrArg D.bool ?_
  simp only [validR]
  grind
 ·
  refine wr ?_
  refine um ?_
  refine ub ?_
  refine um ?_
  apply gT
  · rfl
  · intro hg
    exact pm
  apply gT
  · rfl
  · intro hg; try simp only [hg, ct]; try simp only [hg, ct, Bt]
    exact pb
  refine uA ?_
  refine ua ?_
  refine u_nil ?_
  refine wc (fun hc7 => ?_) (fun hc7 => ?_) <;> try simp only [Q0, Q1, Q2, Q3, Q4, Q5, Q6, Q7, Q8, ge_iff_le, gt_iff_lt] at hc7
  ·
   refine wr ?_
   refine ua ?_
   refine u_nil ?_
   refine WP.ret ?_
   refine ret_ok rfl ?_ (by omega) (fun _ _ => rfl)
   -- ret 2
   refine congrArg D.bool ?_
   simp only [validR]
   grind
  ·
   refine WP.skip ?_
   refine hK2 _ ?_
   refine wr ?_
   refine ua ?_
   refine u_nil ?_
   refine WP.ret ?_
   refine ret_ok rfl ?_ (by omega) (fun _ _ => rfl)
   -- ret 3
   refine congrArg D.bool ?_
   simp only [validR]
   grind

theorem fn176 : FnOk Tryz.prog 176 5 [2] (bodyOf Tryz.f176) := ⟨Tryz.f176, Tryz.func176, by kernel_rfl, by decide, by kernel_rfl, by kernel_rfl⟩
theorem s176 (n : Int) : PSpec Tryz.prog 176 [.d (.int .i64 n)] (.d (.bool (decide (8 < n)))) := by
 refine PSpec.of fn176 (by simp) fun o nk => ?_
 refine wr ?_
 refine ua ?_
 refine u_nil ?_
 refine wr ?_
 refine um ?_
 refine ub ?_
 refine ua ?_
 refine u_nil ?_
 refine WP.ret ?_
 refine ret_ok rfl ?_ (by omega) (fun _ _ => rfl)
 -- ret 1
 rfl

theorem fn177 : FnOkC Tryz.prog 177 21 [.cell 2 149, .tmp 3] (bodyOf Tryz.f177) := ⟨Tryz.f177, Tryz.func177, by kernel_rfl, by decide, by kernel_rfl, by kernel_rfl⟩
theorem s177  : PSpec Tryz.prog 177 [.d (.str [36, 0])] (.tup (([.agg (setA 2), .bool true]).map .d)) := by
 refine PSpec.of2C tabOk fn177 (by simp) fun o nk => ?_
 refine wr ?_
 refine u_step (g_alloc th149 rfl fun o2 hb2 hk2 => ?_)
 refine ua ?_
 refine u_nil ?_
 refine WP.seq fun K3 hK3 => ?_
 refine wr ?_
 refine ua ?_
 refine u_nil ?_
 refine WP.block ?_
 refine WP.loopL (ι := Nat × (Nat → Option AO)) (fun ⟨i, o2⟩ => ⟨al [(0, .d (.str [36, 0])), (2, .loc nk 0), (4, .d (.int .i64 i))], o2, (nk + 1)⟩) (fun ⟨i, o2⟩ => i ≤ 2 ∧ o2 nk = some (.box ((setA i).map .d)) ∧ ∀ t, t < nk → o2 t = o t) (fun ⟨i, o2⟩ => 2 - i) (fun ⟨i, o2⟩ hA => ?_) ⟨0, o2⟩ ?_ ?_
 ·
  obtain ⟨hle, hob, hfr⟩ := hA
  refine WP.seq fun K5 hK5 => ?_
  refine wr ?_
  refine um ?_
  refine um ?_
  refine u_step (o_len_str rfl th9 rfl ?_)
  refine ub ?_
  refine u_nil ?_
  refine wc (fun hc7 => ?_) (fun hc7 => ?_) <;> try simp only [Q0, Q1, Q2, Q3, Q4, Q5, Q6, Q7, Q8, ge_iff_le, gt_iff_lt] at hc7
  ·
   have hi : i = 0 ∨ i = 1 := by simp at hc7; omega
   refine WP.skip ?_
   refine hK5 _ ?_
   refine WP.seq fun K8 hK8 => ?_
   refine WP.block ?_
   refine wr ?_
   refine um ?_
   refine um ?_
   refine u_step (o_ix rfl rfl th9 rfl ?_ ?_ ?_)
   · omega
   · rcases hi with rfl | rfl <;> decide
   refine ua ?_
   refine u_nil ?_
   refine WP.seq fun K10 hK10 => ?_
   refine wr ?_
   refine um ?_
   refine ub ?_
   refine u_nil ?_
   refine wc (fun hc12 => ?_) (fun hc12 => ?_) <;> try simp only [Q0, Q1, Q2, Q3, Q4, Q5, Q6, Q7, Q8, ge_iff_le, gt_iff_lt] at hc12
   ·
    exfalso
    rcases hi with rfl | rfl <;> exact absurd hc12 (by decide)
   ·
    refine WP.skip ?_
    refine hK10 _ ?_
    refine WP.reg tabOk rfl ?_
    refine um ?_
    refine u_step (o_ia_ar rfl rfl th149 rfl th4 hob ?_ ?_ ?_)
    · rcases hi with rfl | rfl <;> decide
    · rcases hi with rfl | rfl <;> decide
    refine u_step0 (g_st rfl rfl rfl th4 rfl hob (by rcases hi with rfl | rfl <;> decide) fun o13 hb13 hk13 => ?_)
    refine u_nil ?_
    refine hK8 _ ?_
    refine WP.reg tabOk rfl ?_
    refine um ?_
    refine ub ?_
    refine ua ?_
    refine u_nil ?_
    -- back
    refine ⟨⟨i + 1, o13⟩, ⟨by omega, ?_, (fun t ht => (hk13 t (by omega)).trans ((hfr t (by omega))))⟩, by simp only; omega, ?_⟩
    · rcases hi with rfl | rfl
      · exact (hb13).trans (by kernel_rfl)
      · exact (hb13).trans (by kernel_rfl)
    · refine Le.al ?_
      simp only [List.forall_mem_cons]
      exact ⟨rfl, rfl, cnt (by omega), by simp⟩
  ·
   have hi2 : i = 2 := by simp at hc7; omega
   refine WP.exit ?_
   refine hK3 _ ?_
   subst hi2
   refine wr ?_
   refine ug th149 hob ?_
   refine u_step0 (g_sta rfl rfl th149 rfl hob (by simp [setA]) fun o15 hb15 hk15 => ?_)
   refine ua ?_
   refine u_nil ?_
   refine WP.ret ?_
   refine retC_ok (resis_agg rfl th149 rfl hb15 rfl rfl rfl) rfl ?_ ?_ (by omega) (fun t ht => (hk15 t (by omega)).trans ((hfr t (by omega))))
   · rfl
   · rfl
 ·
  exact ⟨by omega, hb2, (fun t ht => (hk2 t (by omega)))⟩
 ·
  refine Le.al ?_
  simp only [List.forall_mem_cons]
  exact ⟨rfl, rfl, rfl, by simp⟩

end Go.Proofs.YtpkcbdhjnnnkbaaGreat.Abs

set_option linter.unusedVariables false
set_option linter.unusedSimpArgs false
set_option maxRecDepth 10000
namespace Go.Proofs.YtpkcbdhjnnnkbaaGreat.Abs
open Go
theorem o_nc {P : Program} {Θ : Tab} {K : SV → (Nat → Option AO) → Nat → Prop} {sl : Nat → SV} {o : Nat → Option AO} {nk : Nat} {x : Operand} {q g : Nat} {cs : List SV} (hx : ev sl x = .loc q g) (ho : o q = some (.box cs)) (h : K (.loc q g) o nk) : vOp P Θ (.nilCheck x) ⟨sl, o, nk⟩ K := by
  refine ⟨?_, ?_⟩
  · show ncOp o (ev sl x)
    rw [hx]; exact ⟨cs, ho⟩
  · show K (ev sl x) o nk
    rw [hx]; exact h
theorem setA_at2 {c : Nat} (h : c < 256) : ((setA 2).map SV.d)[0 + ((c : Int)).toNat * 1]? = some (.d (.bool (decide (c = 36 ∨ c = 0)))) := by
  rw [Int.toNat_natCast, Nat.zero_add, Nat.mul_one]; exact setA_at h
theorem dec_bd (s : ByteArray) (i : Nat) : (Utf8.decode s i).1 ≤ 1114111 := by
  have hb : ∀ k, (s.get! (i + k)).toNat < 256 := fun k => (s.get! (i + k)).toNat_lt
  have h0 := hb 0; have h1 := hb 1; have h2 := hb 2; have h3 := hb 3
  have hv : ∀ c : Nat, Utf8.valid (c : Int) = true → c ≤ 1114111 := fun c h => by
    simp only [Utf8.valid, Bool.or_eq_true, Bool.and_eq_true, decide_eq_true_eq] at h
    omega
  simp only [Utf8.decode]
  repeat' split
  all_goals simp only [Utf8.runeError, Bool.and_eq_true, decide_eq_true_eq] at *
  all_goals first
    | omega
    | (rename_i h; exact hv _ h.2)
theorem dec_skip (s : ByteArray) (i : Nat) (h : i < s.size) : 1 ≤ (Utf8.decode s i).2 ∧ i + (Utf8.decode s i).2 ≤ s.size ∧ ∀ k, 1 ≤ k → k < (Utf8.decode s i).2 → 128 ≤ (s.get! (i + k)).toNat := by
  simp only [Utf8.decode]
  repeat' split
  all_goals simp only [Bool.and_eq_true, decide_eq_true_eq, beq_iff_eq] at *
  all_goals refine ⟨by omega, by omega, fun k hk1 hk2 => ?_⟩
  all_goals
    by_cases e1 : k = 1
    · subst e1; omega
    · by_cases e2 : k = 2
      · subst e2; omega
      · by_cases e3 : k = 3
        · subst e3; omega
        · omega
/-- A sign that no name has. -/
def badC (c : UInt8) : Bool := decide (c = 36 ∨ c = 0)
theorem badC_nat (c : UInt8) : badC c = decide (c.toNat = 36 ∨ c.toNat = 0) := by
  unfold badC
  rw [Bool.eq_iff_iff]
  simp only [decide_eq_true_eq]
  constructor
  · rintro (rfl | rfl)
    · exact .inl rfl
    · exact .inr rfl
  · rintro (h | h)
    · exact .inl ((toNat_eq (n := 36) (by omega)).1 (by omega))
    · exact .inr ((toNat_eq (n := 0) (by omega)).1 (by omega))
def anyI (s : Str) : Int := firstI badC s
theorem get_bang {s : Str} {j : Nat} (h : j < s.length) : ((⟨s.toArray⟩ : ByteArray).get! j) = s[j]'h := by
  show (s.toArray[j]!) = _
  simp [h]
theorem dec_at {s : Str} {i : Nat} (h : i < s.length) : 1 ≤ (Utf8.decode ⟨s.toArray⟩ i).2 ∧ i + (Utf8.decode ⟨s.toArray⟩ i).2 ≤ s.length ∧
    (∀ (j : Nat) (hj : j < s.length), i < j → j < i + (Utf8.decode ⟨s.toArray⟩ i).2 → badC (s[j]'hj) = false) ∧ decide (0 ≤ runeI ((Utf8.decode ⟨s.toArray⟩ i).1 : Nat)) = badC (s[i]'h) := by
  have hs : i < (⟨s.toArray⟩ : ByteArray).size := by simpa [ByteArray.size] using h
  obtain ⟨h1, h2, h3⟩ := dec_skip ⟨s.toArray⟩ i hs
  have hsz : (⟨s.toArray⟩ : ByteArray).size = s.length := by simp [ByteArray.size]
  refine ⟨h1, by omega, fun j hj hij hj2 => ?_, ?_⟩
  · have := h3 (j - i) (by omega) (by omega)
    rw [show i + (j - i) = j by omega, get_bang hj] at this
    rw [badC_nat, decide_eq_false_iff_not]
    omega
  · have hg : (⟨s.toArray⟩ : ByteArray)[i]'hs = s[i]'h := rfl
    rw [badC_nat]
    by_cases ha : (s[i]'h).toNat < 128
    · have := decode_ascii ⟨s.toArray⟩ i hs (by rw [hg]; exact ha)
      rw [this, hg]
      unfold runeI
      rw [Bool.eq_iff_iff]
      simp only [decide_eq_true_eq]
      split
      · omega
      · split <;> omega
    · have := (decode_high ⟨s.toArray⟩ i hs (by rw [hg]; omega)).1
      unfold runeI
      rw [Bool.eq_iff_iff]
      simp only [decide_eq_true_eq]
      rw [if_neg (by omega), if_neg (by omega)]
      omega

theorem fn178 : FnOk Tryz.prog 178 10 [4] (bodyOf Tryz.f178) := ⟨Tryz.f178, Tryz.func178, by kernel_rfl, by decide, by kernel_rfl, by kernel_rfl⟩
theorem s178 {o : Nat → Option AO} {nk k c : Nat} (hkc : o k = some (.box ((setA 2).map .d))) (hkl : k < nk) (hc : c < 256) : Spec Tryz.prog 178 [.loc k 0, .d (.int .u8 (c : Int))] o nk (fun r' o' nk' => r' = .d (.bool (decide (c = 36 ∨ c = 0))) ∧ o' = o ∧ nk' = nk) := by
 refine Spec.pure (fun _ => trivial) rfl (Spec.of_body fn178 (by simp) ?_)
 refine wr ?_
 refine ua ?_
 refine u_nil ?_
 refine wr ?_
 refine u_step (o_moveV (v := .loc _ _) rfl ?_)
 refine um ?_
 refine u_step (o_nc rfl hkc ?_)
 refine u_step (o_ia_ar rfl rfl th149 rfl th4 hkc ?_ ?_ ?_)
 · omega
 · omega
 refine u_step (o_ld_loc rfl th4 rfl hkc (setA_at2 hc) ?_)
 refine ua ?_
 refine u_nil ?_
 refine WP.ret ?_
 refine ret_ok rfl ?_ (by omega) (fun _ _ => rfl)
 -- ret 1
 rfl

theorem fn175 : FnOk Tryz.prog 175 187 [4] (bodyOf Tryz.f175) := ⟨Tryz.f175, Tryz.func175, by kernel_rfl, by decide, by kernel_rfl, by kernel_rfl⟩
theorem s175 (c : Int) (h1 : 0 ≤ c) (h2 : c ≤ 1114111) : PSpec Tryz.prog 175 [.d (.str [36, 0]), .d (.int .i32 c)] (.d (.int .i64 (runeI c))) := by
 refine PSpec.of fn175 (by simp) fun o nk => ?_
 refine wr ?_
 refine ua ?_
 refine u_nil ?_
 refine WP.block ?_
 refine wr ?_
 refine um ?_
 refine ub ?_
 refine um ?_
 apply gT
 · rfl
 · intro hg
   exact pm
 apply gT
 · rfl
 · intro hg; try simp only [hg, ct]; try simp only [hg, ct, Bt]
   exact pb
 refine uA ?_
 refine ua ?_
 refine u_nil ?_
 refine wc (fun hc3 => ?_) (fun hc3 => ?_) <;> try simp only [Q0, Q1, Q2, Q3, Q4, Q5, Q6, Q7, Q8, ge_iff_le, gt_iff_lt] at hc3
 ·
  have h128 : c < 128 := by simp at hc3; omega
  refine wr ?_
  refine um ?_
  refine um ?_
  refine uc th21 th5 ?_
  refine u_step (o_pcall (s195 _ _) rfl ?_)
  refine ua ?_
  refine u_nil ?_
  refine WP.ret ?_
  refine ret_ok rfl ?_ (by omega) (fun _ _ => rfl)
  -- ret 1
  skip
  refine congrArg (D.int .i64) ?_
  exact idx2 h1 h128
 ·
  have hc2 : 128 ≤ c := by have := hc3; simp at this; omega
  refine wr ?_
  refine um ?_
  refine ub ?_
  refine ua ?_
  refine u_nil ?_
  refine wc (fun hc6 => ?_) (fun hc6 => ?_) <;> try simp only [Q0, Q1, Q2, Q3, Q4, Q5, Q6, Q7, Q8, ge_iff_le, gt_iff_lt] at hc6
  ·
   have hce : c = 65533 := by simpa using hc6
   refine WP.seq fun K7 hK7 => ?_
   refine wr ?_
   refine um ?_
   refine u_step (g_range rfl th9 rfl fun o9 hb9 hk9 => ?_)
   refine u_nil ?_
   refine WP.block ?_
   refine WP.loopL (ι := Nat × (Nat → Option AO)) (fun ⟨i, o2⟩ => ⟨al [(175, .raw nk)], o2, (nk + 1)⟩) (fun ⟨i, o2⟩ => i ≤ 2 ∧ o2 nk = some (.raw (itOb [36, 0] i)) ∧ ∀ t, t < nk → o2 t = o t) (fun ⟨i, o2⟩ => 2 - i) (fun ⟨i, o2⟩ hA => ?_) ⟨0, o9⟩ ?_ ?_
   ·
    obtain ⟨hle, hob, hfr⟩ := hA
    refine wr ?_
    refine u_step (g_next rfl hob (fun hp11 o11 hb11 hk11 => ?_) (fun hp11 => ?_))
    ·
     have hi : i = 0 ∨ i = 1 := by have := hp11; simp at this; omega
     have hdd := dec2 (i := i) (by omega)
     refine ue ?_
     refine u_nil ?_
     refine WP.seq fun K12 hK12 => ?_
     refine WP.cond rfl (fun hc13 => ?_) (fun hc13 => by cases hc13)
     refine WP.skip ?_
     refine hK12 _ ?_
     refine WP.block ?_
     refine wr ?_
     refine ue ?_
     refine ue ?_
     refine ua ?_
     refine ua ?_
     refine u_nil ?_
     refine wr ?_
     refine um ?_
     refine ub ?_
     refine u_nil ?_
     refine wc (fun hc16 => ?_) (fun hc16 => ?_) <;> try simp only [Q0, Q1, Q2, Q3, Q4, Q5, Q6, Q7, Q8, ge_iff_le, gt_iff_lt] at hc16
     ·
      refine wr ?_
      refine um ?_
      refine ua ?_
      refine u_nil ?_
      refine WP.ret ?_
      refine ret_ok rfl ?_ (by omega) (fun t ht => (hk11 t (by omega)).trans ((hfr t (by omega))))
      -- ret 2
      exfalso
      have hq := hc16
      simp at hq
      omega
     ·
      refine WP.skip ?_
      -- back
      refine ⟨⟨i + 1, o11⟩, ⟨by omega, ?_, (fun t ht => (hk11 t (by omega)).trans ((hfr t (by omega))))⟩, by simp only; omega, ?_⟩
      · have hft := hb11
        rcases hi with rfl | rfl
        · exact hft
        · exact hft
      · refine Le.al ?_
        simp only [List.forall_mem_cons]
        exact ⟨rfl, by simp⟩
    ·
     refine ue ?_
     refine u_nil ?_
     refine WP.seq fun K18 hK18 => ?_
     refine WP.cond rfl (fun hc19 => by cases hc19) (fun hc19 => ?_)
     refine WP.exit ?_
     refine hK7 _ ?_
     refine wr ?_
     refine ua ?_
     refine u_nil ?_
     refine WP.ret ?_
     refine ret_ok rfl ?_ (by omega) (fun t ht => (hfr t (by omega)))
     -- ret 3
     refine congrArg (D.int .i64) ?_
     rw [hce]; rfl
   ·
    exact ⟨by omega, hb9, (fun t ht => (hk9 t (by omega)))⟩
   ·
    refine Le.al ?_
    simp only [List.forall_mem_cons]
    exact ⟨rfl, by simp⟩
  ·
   refine wr ?_
   refine um ?_
   refine u_step (o_pcall (s196 _) rfl ?_)
   refine uN ?_
   refine ua ?_
   refine u_nil ?_
   refine wc (fun hc22 => ?_) (fun hc22 => ?_) <;> try simp only [Q0, Q1, Q2, Q3, Q4, Q5, Q6, Q7, Q8, ge_iff_le, gt_iff_lt] at hc22
   ·
    refine wr ?_
    refine ua ?_
    refine u_nil ?_
    refine WP.ret ?_
    refine ret_ok rfl ?_ (by omega) (fun _ _ => rfl)
    -- ret 4
    refine congrArg (D.int .i64) ?_
    unfold runeI
    rw [if_neg (by omega), if_neg (by omega)]
   ·
    obtain ⟨m, hm, hm1, hml⟩ := enc_last hc2 (by simpa using hc22)
    refine WP.scope ?_
    refine wr ?_
    refine um ?_
    refine u_step (o_cv_rune rfl th21 rfl th9 rfl ?_)
    refine ua ?_
    refine u_nil ?_
    refine wr ?_
    refine um ?_
    refine u_step (o_len_str rfl th9 rfl ?_)
    refine ub ?_
    refine ua ?_
    refine u_nil ?_
    refine wr ?_
    refine um ?_
    refine ua ?_
    refine u_nil ?_
    refine wr ?_
    refine ua ?_
    refine u_nil ?_
    refine WP.seq fun K28 hK28 => ?_
    refine WP.block ?_
    refine WP.loopL (ι := Unit) (fun _u => ⟨al [(0, .d (.str [36, 0])), (7, .d (.str (Utf8.encode c).data.toList)), (8, .d (.int .i64 (m : Nat))), (9, .d (.int .i64 (m : Nat)))], o, nk⟩) (fun _u => True) (fun _u => 0) (fun _u hA => ?_) () ?_ ?_
    ·
     refine WP.seq fun K29 hK29 => ?_
     refine wr ?_
     refine um ?_
     refine um ?_
     refine u_step (o_len_str rfl th9 rfl ?_)
     refine ub ?_
     refine u_nil ?_
     refine wc (fun hc31 => ?_) (fun hc31 => ?_) <;> try simp only [Q0, Q1, Q2, Q3, Q4, Q5, Q6, Q7, Q8, ge_iff_le, gt_iff_lt] at hc31
     ·
      obtain rfl : m = 1 := by simp at hc31; omega
      refine WP.skip ?_
      refine hK29 _ ?_
      refine WP.block ?_
      refine WP.scope ?_
      refine WP.seq fun K32 hK32 => ?_
      refine wd ?_
      refine dm ?_
      refine dm ?_
      refine d_step (o_ix rfl rfl th9 rfl (by decide) (by decide) ⟨rfl, rfl, rfl⟩) ?_
      refine dm ?_
      refine dm ?_
      refine d_step (o_ix rfl rfl th9 rfl (by decide) (by rw [hm]; decide) ⟨rfl, rfl, rfl⟩) ?_
      refine db ?_
      refine d_nil ?_
      refine wc (fun hc34 => ?_) (fun hc34 => ?_) <;> try simp only [Q0, Q1, Q2, Q3, Q4, Q5, Q6, Q7, Q8, ge_iff_le, gt_iff_lt] at hc34
      ·
       refine wd ?_
       refine dm ?_
       refine dm ?_
       refine db ?_
       refine d_step (o_sl_str (m := 2) (p := 2) rfl th9 rfl rfl rfl ⟨rfl, rfl, rfl⟩) ?_
       refine dm ?_
       refine dm ?_
       refine d_step (o_ix rfl rfl th9 rfl (by decide) (by rw [hm]; decide) ⟨rfl, rfl, rfl⟩) ?_
       refine d_step (o_pcall (s195 _ _) rfl ⟨rfl, rfl, rfl⟩) ?_
       refine da ?_
       refine d_nil ?_
       refine WP.seq fun K36 hK36 => ?_
       refine wr ?_
       refine um ?_
       refine ub ?_
       refine u_nil ?_
       refine wc (fun hc38 => ?_) (fun hc38 => ?_) <;> try simp only [Q0, Q1, Q2, Q3, Q4, Q5, Q6, Q7, Q8, ge_iff_le, gt_iff_lt] at hc38
       ·
        refine wr ?_
        refine ua ?_
        refine u_nil ?_
        refine WP.ret ?_
        refine ret_ok rfl ?_ (by omega) (fun _ _ => rfl)
        -- ret 5
        refine congrArg (D.int .i64) ?_
        unfold runeI
        rw [if_neg (by omega), if_neg (by omega)]
       ·
        exfalso
        have hq := hc38
        simp [Go.Lib.indexByte] at hq
      ·
       exfalso
       have hq := hc34
       simp at hq
       have h0 : bAt [36, 0] 1 = 0 := rfl
       omega
     ·
      refine WP.exit ?_
      refine hK28 _ ?_
      refine WP.seq fun K40 hK40 => ?_
      refine wr ?_
      refine ua ?_
      refine u_nil ?_
      refine WP.ret ?_
      refine ret_ok rfl ?_ (by omega) (fun _ _ => rfl)
      -- ret 6
      refine congrArg (D.int .i64) ?_
      unfold runeI
      rw [if_neg (by omega), if_neg (by omega)]
    ·
     trivial
    ·
     have hw : IntKind.i64.wrap (((Utf8.encode c).data.toList.length : Int) - 1) = (m : Int) := by rw [hm, wrap_i64 (by omega) (by have := encode_len4 c; omega)]; omega
     refine Le.al ?_
     simp only [List.forall_mem_cons]
     exact ⟨rfl, rfl, (by rw [← hw]; rfl), (by rw [← hw]; rfl), by simp⟩

end Go.Proofs.YtpkcbdhjnnnkbaaGreat.Abs

set_option linter.unusedVariables false
set_option linter.unusedSimpArgs false
set_option maxRecDepth 10000
namespace Go.Proofs.YtpkcbdhjnnnkbaaGreat.Abs
open Go
theorem any_bad (s : Str) : s.any badC = decide ((36 : UInt8) ∈ s ∨ (0 : UInt8) ∈ s) := by
  rw [Bool.eq_iff_iff]
  simp only [List.any_eq_true, decide_eq_true_eq, badC]
  constructor
  · rintro ⟨x, hx, rfl | rfl⟩
    · exact .inl hx
    · exact .inr hx
  · rintro (h | h)
    · exact ⟨_, h, .inl rfl⟩
    · exact ⟨_, h, .inr rfl⟩
theorem badC_get {s : Str} {i : Nat} (h : i < s.length) : decide ((s[((i : Int)).toNat]?.getD 0).toNat = 36 ∨ (s[((i : Int)).toNat]?.getD 0).toNat = 0) = badC (s[i]'h) := by
  rw [badC_nat]; simp [h]

theorem fn150 : FnOk Tryz.prog 150 55 [4] (bodyOf Tryz.f150) := ⟨Tryz.f150, Tryz.func150, by kernel_rfl, by decide, by kernel_rfl, by kernel_rfl⟩
theorem s150 (s : Str) : PSpec Tryz.prog 150 [.d (.str s), .d (.str [36, 0])] (.d (.int .i64 (anyI s))) := by
 refine PSpec.bd fun hbd => ?_
 have hx : s.length ≤ 9223372036854775807 := hbd.1
 refine PSpec.of fn150 (by simp) fun o nk => ?_
 refine wr ?_
 refine ua ?_
 refine u_nil ?_
 refine WP.seq fun K2 hK2 => ?_
 refine wr ?_
 refine um ?_
 refine u_step (o_bin_str rfl (show _ = SV.d (.str []) from rfl) rfl ?_)
 refine u_nil ?_
 refine wc (fun hc4 => ?_) (fun hc4 => ?_) <;> try simp only [Q0, Q1, Q2, Q3, Q4, Q5, Q6, Q7, Q8, ge_iff_le, gt_iff_lt] at hc4
 ·
  exact absurd hc4 (by decide)
 ·
  refine WP.skip ?_
  refine hK2 _ ?_
  refine WP.seq fun K5 hK5 => ?_
  refine wr ?_
  refine um ?_
  refine u_step (o_len_str rfl th9 rfl ?_)
  refine ub ?_
  refine u_nil ?_
  refine wc (fun hc7 => ?_) (fun hc7 => ?_) <;> try simp only [Q0, Q1, Q2, Q3, Q4, Q5, Q6, Q7, Q8, ge_iff_le, gt_iff_lt] at hc7
  ·
   exact absurd hc7 (by decide)
  ·
   refine WP.skip ?_
   refine hK5 _ ?_
   refine WP.seq fun K8 hK8 => ?_
   refine wr ?_
   refine um ?_
   refine u_step (o_len_str rfl th9 rfl ?_)
   refine u_step (o_pcall (s176 _) rfl ?_)
   refine u_nil ?_
   refine wc (fun hc10 => ?_) (fun hc10 => ?_) <;> try simp only [Q0, Q1, Q2, Q3, Q4, Q5, Q6, Q7, Q8, ge_iff_le, gt_iff_lt] at hc10
   ·
    refine wr ?_
    refine um ?_
    refine u_step (o_pcall (s177) rfl ?_)
    refine u_step (o_moveV (v := .tup _) rfl ?_)
    refine ue ?_
    refine ue ?_
    refine u_step (g_alloc th149 rfl fun o12 hb12 hk12 => ?_)
    refine u_step0 (g_sta rfl rfl th149 rfl hb12 (by simp [setA]) fun o13 hb13 hk13 => ?_)
    have hb13 : _ = some (AO.box ((setA 2).map .d)) := (hb13).trans (by simp [setA])
    refine ua ?_
    refine u_nil ?_
    refine wr ?_
    refine um ?_
    refine u_nil ?_
    refine wc (fun hc15 => ?_) (fun hc15 => ?_) <;> try simp only [Q0, Q1, Q2, Q3, Q4, Q5, Q6, Q7, Q8, ge_iff_le, gt_iff_lt] at hc15
    ·
     refine WP.seq fun K16 hK16 => ?_
     refine wr ?_
     refine ua ?_
     refine u_nil ?_
     refine WP.block ?_
     refine WP.loopL (ι := Nat) (fun i => ⟨al [(0, .d (.str s)), (6, .loc nk 0), (8, .d (.int .i64 i))], o13, (nk + 1)⟩) (fun i => i ≤ s.length ∧ ∀ (j : Nat) (hj : j < s.length), j < i → badC (s[j]'hj) = false) (fun i => s.length - i) (fun i hA => ?_) 0 ?_ ?_
     ·
      obtain ⟨hle_i, hin_i⟩ := hA
      refine WP.seq fun K18 hK18 => ?_
      refine wr ?_
      refine um ?_
      refine um ?_
      refine u_step (o_len_str rfl th9 rfl ?_)
      refine ub ?_
      refine u_nil ?_
      refine wc (fun hc20 => ?_) (fun hc20 => ?_) <;> try simp only [Q0, Q1, Q2, Q3, Q4, Q5, Q6, Q7, Q8, ge_iff_le, gt_iff_lt] at hc20
      ·
       refine WP.skip ?_
       refine hK18 _ ?_
       refine WP.seq fun K21 hK21 => ?_
       refine WP.block ?_
       refine wr ?_
       refine um ?_
       refine um ?_
       refine u_step (o_ix rfl rfl th9 rfl ?_ ?_ ?_)
       · omega
       · simp; omega
       refine u_step (o_scall (s178 (c := (s[((i : Int)).toNat]?.getD 0).toNat) hb13 (by omega) (UInt8.toNat_lt _)) rfl ?_)
       refine u_nil ?_
       refine wc (fun hc23 => ?_) (fun hc23 => ?_) <;> try simp only [Q0, Q1, Q2, Q3, Q4, Q5, Q6, Q7, Q8, ge_iff_le, gt_iff_lt] at hc23
       ·
        refine wr ?_
        refine um ?_
        refine ua ?_
        refine u_nil ?_
        refine WP.ret ?_
        refine ret_ok rfl ?_ (by omega) (fun t ht => (hk13 t (by omega)).trans ((hk12 t (by omega))))
        -- ret 1
        refine congrArg (D.int .i64) ?_
        exact (firstI_at (p := badC) (xs := s) (i := i) (by omega) (by rw [← badC_get (by omega)]; exact decide_eq_true hc23) hin_i).symm
       ·
        refine WP.skip ?_
        refine hK21 _ ?_
        refine WP.reg tabOk rfl ?_
        refine um ?_
        refine ub ?_
        refine ua ?_
        refine u_nil ?_
        -- back
        refine ⟨i + 1, ⟨by omega, ?_⟩, by omega, ?_⟩
        · intro j hj h1
          by_cases h2 : j = i
          · subst h2; rw [← badC_get (by omega)]; exact decide_eq_false hc23
          · exact hin_i j hj (by omega)
        · refine Le.al ?_
          simp only [List.forall_mem_cons]
          exact ⟨rfl, rfl, cnt (by omega), by simp⟩
      ·
       refine WP.exit ?_
       refine hK16 _ ?_
       refine wr ?_
       refine ua ?_
       refine u_nil ?_
       refine WP.ret ?_
       refine ret_ok rfl ?_ (by omega) (fun t ht => (hk13 t (by omega)).trans ((hk12 t (by omega))))
       -- ret 2
       refine congrArg (D.int .i64) ?_
       exact (firstI_none (p := badC) (xs := s) fun j hj => hin_i j hj (by omega)).symm
     ·
      simp
     ·
      refine Le.al ?_
      simp only [List.forall_mem_cons]
      exact ⟨rfl, rfl, rfl, by simp⟩
    ·
     cases hc15
   ·
    refine WP.skip ?_
    refine hK8 _ ?_
    refine WP.seq fun K26 hK26 => ?_
    refine wr ?_
    refine um ?_
    refine u_step (g_range rfl th9 rfl fun o28 hb28 hk28 => ?_)
    refine u_nil ?_
    refine WP.block ?_
    refine WP.loopL (ι := Nat × (Nat → Option AO)) (fun ⟨i, o2⟩ => ⟨al [(0, .d (.str s)), (1, .d (.str [36, 0])), (45, .raw nk)], o2, (nk + 1)⟩) (fun ⟨i, o2⟩ => i ≤ s.length ∧ o2 nk = some (.raw (itOb s i)) ∧ (∀ t, t < nk → o2 t = o t) ∧ ∀ (j : Nat) (hj : j < s.length), j < i → badC (s[j]'hj) = false) (fun ⟨i, o2⟩ => s.length - i) (fun ⟨i, o2⟩ hA => ?_) ⟨0, o28⟩ ?_ ?_
    ·
     obtain ⟨hle, hob, hfr, hin⟩ := hA
     refine wr ?_
     refine u_step (g_next rfl hob (fun hp30 o30 hb30 hk30 => ?_) (fun hp30 => ?_))
     ·
      have hlt : i < s.length := hp30
      obtain ⟨hd1, hd2, hd3, hd4⟩ := dec_at hlt
      refine ue ?_
      refine u_nil ?_
      refine WP.seq fun K31 hK31 => ?_
      refine WP.cond rfl (fun hc32 => ?_) (fun hc32 => by cases hc32)
      refine WP.skip ?_
      refine hK31 _ ?_
      refine WP.block ?_
      refine wr ?_
      refine ue ?_
      refine ue ?_
      refine ua ?_
      refine ua ?_
      refine u_nil ?_
      refine wr ?_
      refine um ?_
      refine um ?_
      refine u_step (o_pcall (s175 _ (by omega) (by have := dec_bd ⟨s.toArray⟩ i; omega)) rfl ?_)
      refine ub ?_
      refine u_nil ?_
      refine wc (fun hc35 => ?_) (fun hc35 => ?_) <;> try simp only [Q0, Q1, Q2, Q3, Q4, Q5, Q6, Q7, Q8, ge_iff_le, gt_iff_lt] at hc35
      ·
       refine wr ?_
       refine um ?_
       refine ua ?_
       refine u_nil ?_
       refine WP.ret ?_
       refine ret_ok rfl ?_ (by omega) (fun t ht => (hk30 t (by omega)).trans ((hfr t (by omega))))
       -- ret 3
       refine congrArg (D.int .i64) ?_
       exact (firstI_at (p := badC) (xs := s) (i := i) (by omega) (by rw [← hd4]; exact decide_eq_true hc35) hin).symm
      ·
       refine WP.skip ?_
       -- back
       refine ⟨⟨i + _, o30⟩, ⟨by omega, hb30, (fun t ht => (hk30 t (by omega)).trans ((hfr t (by omega)))), ?_⟩, by simp only; omega, ?_⟩
       · intro j hj h1
         rcases Nat.lt_trichotomy j i with h2 | h2 | h2
         · exact hin j hj h2
         · subst h2; rw [← hd4]; exact decide_eq_false hc35
         · exact hd3 j hj h2 h1
       · refine Le.al ?_
         simp only [List.forall_mem_cons]
         exact ⟨rfl, rfl, rfl, by simp⟩
     ·
      refine ue ?_
      refine u_nil ?_
      refine WP.seq fun K37 hK37 => ?_
      refine WP.cond rfl (fun hc38 => by cases hc38) (fun hc38 => ?_)
      refine WP.exit ?_
      refine hK26 _ ?_
      refine wr ?_
      refine ua ?_
      refine u_nil ?_
      refine WP.ret ?_
      refine ret_ok rfl ?_ (by omega) (fun t ht => (hfr t (by omega)))
      -- ret 4
      refine congrArg (D.int .i64) ?_
      exact (firstI_none (p := badC) (xs := s) fun j hj => hin j hj (by omega)).symm
    ·
     exact ⟨by omega, hb28, (fun t ht => (hk28 t (by omega))), by simp⟩
    ·
     refine Le.al ?_
     simp only [List.forall_mem_cons]
     exact ⟨rfl, rfl, rfl, by simp⟩

theorem fn103 : FnOk Tryz.prog 103 9 [4] (bodyOf Tryz.f103) := ⟨Tryz.f103, Tryz.func103, by kernel_rfl, by decide, by kernel_rfl, by kernel_rfl⟩
theorem s103 (s : Str) : PSpec Tryz.prog 103 [.d (.str s), .d (.str [36, 0])] (.d (.bool (s.any badC))) := by
 refine PSpec.of fn103 (by simp) fun o nk => ?_
 refine wr ?_
 refine ua ?_
 refine u_nil ?_
 refine wr ?_
 refine um ?_
 refine um ?_
 refine u_step (o_pcall (s150 s) rfl ?_)
 refine ub ?_
 refine ua ?_
 refine u_nil ?_
 refine WP.ret ?_
 refine ret_ok rfl ?_ (by omega) (fun _ _ => rfl)
 -- ret 1
 rw [← firstI_nn]
 rfl

theorem fn48 : FnOk Tryz.prog 48 16 [2] (bodyOf Tryz.f48) := ⟨Tryz.f48, Tryz.func48, by kernel_rfl, by decide, by kernel_rfl, by kernel_rfl⟩
theorem s48 (s : Str) : PSpec Tryz.prog 48 [.d (.str s)] (.d (.bool (collV s))) := by
 refine PSpec.of fn48 (by simp) fun o nk => ?_
 refine wr ?_
 refine ua ?_
 refine u_nil ?_
 refine wr ?_
 refine um ?_
 refine u_step (o_len_str rfl th9 rfl ?_)
 refine ub ?_
 refine um ?_
 apply gT
 · rfl
 · intro hg
   exact pm
 apply gT
 · rfl
 · intro hg; try simp only [hg, ct]; try simp only [hg, ct, Bt]
   refine o_len_str rfl th9 rfl ⟨rfl, rfl, rfl⟩
 apply gT
 · rfl
 · intro hg; try simp only [hg, ct]; try simp only [hg, ct, Bt]
   exact pb
 refine uA ?_
 refine um ?_
 apply gT
 · rfl
 · intro hg
   exact pm
 apply gT
 · rfl
 · intro hg; try simp only [hg, ct]; try simp only [hg, ct, Bt]
   refine o_pcall (s103 s) rfl ⟨rfl, rfl, rfl⟩
 apply gT
 · rfl
 · intro hg; try simp only [hg, ct]; try simp only [hg, ct, Bt]
   exact pN
 refine uA ?_
 refine ua ?_
 refine u_nil ?_
 refine WP.ret ?_
 refine ret_ok rfl ?_ (by omega) (fun _ _ => rfl)
 -- ret 1
 refine congrArg D.bool ?_
 rw [any_bad, Bool.eq_iff_iff]
 simp only [collV, Bool.and_eq_true, decide_eq_true_eq, Bool.not_eq_true', decide_eq_false_iff_not, not_or]
 constructor
 · rintro ⟨⟨h1, h2⟩, h3, h4⟩; exact ⟨by omega, by omega, h3, h4⟩
 · rintro ⟨h1, h2, h3, h4⟩; exact ⟨⟨by omega, by omega⟩, h3, h4⟩

end Go.Proofs.YtpkcbdhjnnnkbaaGreat.Abs

set_option linter.unusedVariables false
set_option linter.unusedSimpArgs false
set_option maxRecDepth 10000
namespace Go.Proofs.YtpkcbdhjnnnkbaaGreat.Abs
open Go
def hasC (k : Int) : Bool := decide (2 ≤ k) && decide (k ≤ 7)
def hasT (k : Int) : Bool := decide (k = 7)
def hasI (k : Int) : Bool := decide (k = 2) || decide (k = 3) || decide (k = 4)
def hasD (k : Int) : Bool := decide (k = 2)
def hasS (k : Int) : Bool := decide (k = 3)
theorem s64b (k : Int) : PSpec Tryz.prog 64 [.d (.int .i64 k)] (.tup [.d (.bool (hasC k)), .d (.bool (hasT k)), .d (.bool (hasI k)), .d (.bool (hasD k)), .d (.bool (hasS k))]) := by
  have h := s64 k
  have e : (hasL k).map SV.d = [.d (.bool (hasC k)), .d (.bool (hasT k)), .d (.bool (hasI k)), .d (.bool (hasD k)), .d (.bool (hasS k))] := by
    unfold hasL hasC hasT hasI hasD hasS
    by_cases h2 : k = 2
    · subst h2; rfl
    · by_cases h3 : k = 3
      · subst h3; rfl
      · by_cases h4 : k = 4
        · subst h4; rfl
        · by_cases h5 : k = 5
          · subst h5; rfl
          · by_cases h6 : k = 6
            · subst h6; rfl
            · by_cases h7 : k = 7
              · subst h7; rfl
              · have : (decide (2 ≤ k) && decide (k ≤ 7)) = false := by simp; omega
                simp [h2, h3, h4, h5, h6, h7, this]
  rwa [e] at h
structure Bits (k : Int) : Prop where
  t1 : (bitsOf .and .i64 (fieldsV k) 2 != 0) = hasT k
  t0 : (bitsOf .and .i64 (fieldsV k) 2 == 0) = !hasT k
  c1 : (bitsOf .and .i64 (fieldsV k) 1 != 0) = hasC k
  c0 : (bitsOf .and .i64 (fieldsV k) 1 == 0) = !hasC k
  i1 : (bitsOf .and .i64 (fieldsV k) 4 != 0) = hasI k
  i0 : (bitsOf .and .i64 (fieldsV k) 4 == 0) = !hasI k
  d1 : (bitsOf .and .i64 (fieldsV k) 8 != 0) = hasD k
  d0 : (bitsOf .and .i64 (fieldsV k) 8 == 0) = !hasD k
  s1 : (bitsOf .and .i64 (fieldsV k) 16 != 0) = hasS k
  s0 : (bitsOf .and .i64 (fieldsV k) 16 == 0) = !hasS k
theorem bits_of {k : Int} (h : 1 ≤ k ∧ k ≤ 7) : Bits k := by
  obtain rfl | rfl | rfl | rfl | rfl | rfl | rfl : k = 1 ∨ k = 2 ∨ k = 3 ∨ k = 4 ∨ k = 5 ∨ k = 6 ∨ k = 7 := by omega
  all_goals exact ⟨by decide, by decide, by decide, by decide, by decide, by decide, by decide, by decide, by decide, by decide⟩
theorem fields_ok (k : Int) : decide (fieldsV k < 0) = !(decide (1 ≤ k) && decide (k ≤ 7)) := by
  by_cases h : 1 ≤ k ∧ k ≤ 7
  · obtain rfl | rfl | rfl | rfl | rfl | rfl | rfl : k = 1 ∨ k = 2 ∨ k = 3 ∨ k = 4 ∨ k = 5 ∨ k = 6 ∨ k = 7 := by omega
    all_goals rfl
  · have : fieldsV k = -1 := by
      unfold fieldsV
      rw [if_neg (by omega), if_neg (by omega), if_neg (by omega), if_neg (by omega), if_neg (by omega), if_neg (by omega)]
    rw [this, Bool.eq_iff_iff]
    simp
    omega
def namesE (e : Etr) : Bool := (if hasT e.kind = true then collV e.to && !decide (e.to = e.coll) else decide (e.to = [])) && (if hasC e.kind = true then collV e.coll else decide (e.coll = []))
noncomputable def valuesE (e : Etr) : Bool := (hasI e.kind || noneV e.id) && (hasD e.kind || noneV e.doc) && (hasS e.kind || decide (e.deltas.length = 0)) && (!hasI e.kind || decide (checkV e.id = 0)) && (!hasD e.kind || mayDocV e.doc e.id) && (!hasS e.kind || mayDeltasV e.deltas)
/-- May an entry be? -/
noncomputable def mayE (e : Etr) : Bool := (decide (1 ≤ e.kind) && decide (e.kind ≤ 7)) && (decide (0 ≤ e.term) && decide (e.term ≤ 1099511627776)) && (decide (0 ≤ e.session) && decide (e.session ≤ 255)) && (decide (0 ≤ e.number) && decide (e.number ≤ 1099511627776)) && (!decide (e.kind = 1) || decide (e.session = 0) && decide (e.number = 0)) && namesE e && valuesE e
structure OkE (e : Etr) : Prop where
  ri : rngV e.id
  si : szV e.id ≤ 1099511627776
  rd : rngV e.doc
  sd : szV e.doc ≤ 1099511627776
  ds : e.deltas.length ≤ 64 → ∀ d ∈ e.deltas, okD d
theorem coll_nil : collV [] = false := by decide
theorem d_imp_i {k : Int} (h : hasD k = true) : hasI k = true := by
  unfold hasD at h; unfold hasI; simp at h; simp [h]
theorem pvE {P : Program} {f : FuncId} {v w : Val} {r : SV} (h : PSpec P f [.d (encV v), .d (encV w)] r) : PSpec P f [.d (.agg (valCells v)), .d (.agg (valCells w))] r := by
  rw [encV_eq, encV_eq] at h; exact h

theorem fn101 : FnOk Tryz.prog 101 40 [4] (bodyOf Tryz.f101) := ⟨Tryz.f101, Tryz.func101, by kernel_rfl, by decide, by kernel_rfl, by kernel_rfl⟩
theorem s101 (e : Etr) (hk : 1 ≤ e.kind ∧ e.kind ≤ 7) : PSpec Tryz.prog 101 [.d (encE e), .d (.int .i64 (fieldsV e.kind))] (.d (.bool (namesE e))) := by
 have hb := bits_of hk
 refine PSpec.of fn101 (by simp) fun o nk => ?_
 refine wr ?_
 refine u_step (g_box rfl fun o2 hb2 hk2 => ?_)
 refine ua ?_
 refine u_nil ?_
 refine WP.seq fun K3 hK3 => ?_
 refine wr ?_
 refine um ?_
 refine ub ?_
 refine ub ?_
 refine um ?_
 apply gT
 · rfl
 · intro hg
   exact pf th30 th9 hb2
 apply gT
 · rfl
 · intro hg; try simp only [hg, ct]; try simp only [hg, ct, Bt]
   exact pl th9 hb2
 apply gT
 · rfl
 · intro hg; try simp only [hg, ct]; try simp only [hg, ct, Bt]
   refine o_pcall (s48 _) rfl ⟨rfl, rfl, rfl⟩
 apply gT
 · rfl
 · intro hg; try simp only [hg, ct]; try simp only [hg, ct, Bt]
   exact pN
 apply gT
 · rfl
 · intro hg; try simp only [hg, ct]; try simp only [hg, ct, Bt]
   exact pm
 apply u_guard
 · exact GC.cf _ _
 · intro hg
   exact pf th30 th9 hb2
 apply u_guard
 · exact GC.cf _ _
 · intro hg; try simp only [hg, ct]; try simp only [hg, ct, Bt]
   exact pl th9 hb2
 apply u_guard
 · exact GC.cf _ _
 · intro hg
   exact pf th30 th9 hb2
 apply u_guard
 · exact GC.cf _ _
 · intro hg; try simp only [hg, ct]; try simp only [hg, ct, Bt]
   exact pl th9 hb2
 apply u_guard
 · exact GC.cf _ _
 · intro hg; try simp only [hg, ct]; try simp only [hg, ct, Bt]
   exact ps
 apply gT
 · rfl
 · intro hg; try simp only [hg, ct]; try simp only [hg, ct, Bt]
   exact pO
 refine uA ?_
 refine um ?_
 apply gF
 · rfl
 · intro hg
   exact pm
 apply gF
 · rfl
 · intro hg; try simp only [hg, ct]; try simp only [hg, ct, Bt]
   exact pb
 apply gF
 · rfl
 · intro hg; try simp only [hg, ct]; try simp only [hg, ct, Bt]
   exact pb
 apply gF
 · rfl
 · intro hg; try simp only [hg, ct]; try simp only [hg, ct, Bt]
   exact pm
 apply u_guard
 · exact GC.ct _ _
 · intro hg
   exact pf th30 th9 hb2
 apply u_guard
 · exact GC.ct _ _
 · intro hg; try simp only [hg, ct]; try simp only [hg, ct, Bt]
   exact pl th9 hb2
 apply u_guard
 · exact GC.ct _ _
 · intro hg; try simp only [hg, ct]; try simp only [hg, ct, Bt]
   refine o_bin_str rfl (show _ = SV.d (.str []) from rfl) rfl ⟨rfl, rfl, rfl⟩
 apply gF
 · rfl
 · intro hg; try simp only [hg, ct]; try simp only [hg, ct, Bt]
   exact pA
 refine uO ?_
 refine u_nil ?_
 refine wc (fun hc5 => ?_) (fun hc5 => ?_) <;> try simp only [Q0, Q1, Q2, Q3, Q4, Q5, Q6, Q7, Q8, ge_iff_le, gt_iff_lt] at hc5
 ·
  refine wr ?_
  refine ua ?_
  refine u_nil ?_
  refine WP.ret ?_
  refine ret_ok rfl ?_ (by omega) (fun t ht => (hk2 t (by omega)))
  -- ret 1
  clear hK3
  refine congrArg D.bool ?_
  try simp only [hb.t1, hb.t0, hb.c1, hb.c0, hb.i1, hb.i0, hb.d1, hb.d0, hb.s1, hb.s0] at hc5
  try simp only [hb.t1, hb.t0, hb.c1, hb.c0, hb.i1, hb.i0, hb.d1, hb.d0, hb.s1, hb.s0]
  simp only [namesE, List.length_map] at *
  grind
 ·
  refine WP.skip ?_
  refine hK3 _ ?_
  refine WP.seq fun K7 hK7 => ?_
  refine wr ?_
  refine um ?_
  refine ub ?_
  refine ub ?_
  refine u_nil ?_
  refine wc (fun hc9 => ?_) (fun hc9 => ?_) <;> try simp only [Q0, Q1, Q2, Q3, Q4, Q5, Q6, Q7, Q8, ge_iff_le, gt_iff_lt] at hc9
  ·
   refine wr ?_
   refine uf th30 th9 hb2 ?_
   refine ul th9 hb2 ?_
   refine u_step (o_pcall (s48 _) rfl ?_)
   refine ua ?_
   refine u_nil ?_
   refine WP.ret ?_
   refine ret_ok rfl ?_ (by omega) (fun t ht => (hk2 t (by omega)))
   -- ret 2
   clear hK3 hK7
   refine congrArg D.bool ?_
   try simp only [hb.t1, hb.t0, hb.c1, hb.c0, hb.i1, hb.i0, hb.d1, hb.d0, hb.s1, hb.s0] at hc5 hc9
   try simp only [hb.t1, hb.t0, hb.c1, hb.c0, hb.i1, hb.i0, hb.d1, hb.d0, hb.s1, hb.s0]
   simp only [namesE, List.length_map] at *
   grind
  ·
   refine WP.skip ?_
   refine hK7 _ ?_
   refine wr ?_
   refine uf th30 th9 hb2 ?_
   refine ul th9 hb2 ?_
   refine u_step (o_bin_str rfl (show _ = SV.d (.str []) from rfl) rfl ?_)
   refine ua ?_
   refine u_nil ?_
   refine WP.ret ?_
   refine ret_ok rfl ?_ (by omega) (fun t ht => (hk2 t (by omega)))
   -- ret 3
   clear hK3 hK7
   refine congrArg D.bool ?_
   try simp only [hb.t1, hb.t0, hb.c1, hb.c0, hb.i1, hb.i0, hb.d1, hb.d0, hb.s1, hb.s0] at hc5 hc9
   try simp only [hb.t1, hb.t0, hb.c1, hb.c0, hb.i1, hb.i0, hb.d1, hb.d0, hb.s1, hb.s0]
   simp only [namesE, List.length_map] at *
   grind

theorem fn102 : FnOk Tryz.prog 102 63 [4] (bodyOf Tryz.f102) := ⟨Tryz.f102, Tryz.func102, by kernel_rfl, by decide, by kernel_rfl, by kernel_rfl⟩
theorem s102 (e : Etr) (hk : 1 ≤ e.kind ∧ e.kind ≤ 7) (ok : OkE e) : PSpec Tryz.prog 102 [.d (encE e), .d (.int .i64 (fieldsV e.kind))] (.d (.bool (valuesE e))) := by
 have hb := bits_of hk
 refine PSpec.of fn102 (by simp) fun o nk => ?_
 refine wr ?_
 refine u_step (g_box rfl fun o2 hb2 hk2 => ?_)
 refine ua ?_
 refine u_nil ?_
 refine WP.seq fun K3 hK3 => ?_
 refine WP.block ?_
 refine WP.seq fun K4 hK4 => ?_
 refine wr ?_
 refine um ?_
 refine ub ?_
 refine ub ?_
 refine um ?_
 apply gT
 · rfl
 · intro hg
   exact pf th30 th27 hb2
 apply gT
 · rfl
 · intro hg; try simp only [hg, ct]; try simp only [hg, ct, Bt]
   exact pg th27 hb2
 apply gT
 · rfl
 · intro hg; try simp only [hg, ct]; try simp only [hg, ct, Bt]
   refine o_pcall (pv (v := e.id) (s147 e.id ok.si)) rfl ⟨rfl, rfl, rfl⟩
 apply gT
 · rfl
 · intro hg; try simp only [hg, ct]; try simp only [hg, ct, Bt]
   exact pN
 refine uA ?_
 refine ua ?_
 refine u_nil ?_
 refine wc (fun hc6 => ?_) (fun hc6 => ?_) <;> try simp only [Q0, Q1, Q2, Q3, Q4, Q5, Q6, Q7, Q8, ge_iff_le, gt_iff_lt] at hc6
 ·
  refine WP.skip ?_
  refine hK4 _ ?_
  refine wc (fun hc7 => ?_) (fun hc7 => ?_) <;> try simp only [Q0, Q1, Q2, Q3, Q4, Q5, Q6, Q7, Q8, ge_iff_le, gt_iff_lt] at hc7
  ·
   refine wr ?_
   refine ua ?_
   refine u_nil ?_
   refine WP.ret ?_
   refine ret_ok rfl ?_ (by omega) (fun t ht => (hk2 t (by omega)))
   -- ret 1
   clear hK3 hK4
   refine congrArg D.bool ?_
   try simp only [hb.t1, hb.t0, hb.c1, hb.c0, hb.i1, hb.i0, hb.d1, hb.d0, hb.s1, hb.s0] at hc6 hc7
   try simp only [hb.t1, hb.t0, hb.c1, hb.c0, hb.i1, hb.i0, hb.d1, hb.d0, hb.s1, hb.s0]
   simp only [valuesE, List.length_map] at *
   grind
  ·
   refine wr ?_
   refine um ?_
   refine ub ?_
   refine ub ?_
   refine um ?_
   apply gT
   · rfl
   · intro hg
     exact pf th30 th27 hb2
   apply gT
   · rfl
   · intro hg; try simp only [hg, ct]; try simp only [hg, ct, Bt]
     exact pg th27 hb2
   apply gT
   · rfl
   · intro hg; try simp only [hg, ct]; try simp only [hg, ct, Bt]
     refine o_pcall (pv (v := e.id) (s123 e.id ok.ri ok.si)) rfl ⟨rfl, rfl, rfl⟩
   apply gT
   · rfl
   · intro hg; try simp only [hg, ct]; try simp only [hg, ct, Bt]
     exact pb
   refine uA ?_
   refine ua ?_
   refine u_nil ?_
   refine wc (fun hc10 => ?_) (fun hc10 => ?_) <;> try simp only [Q0, Q1, Q2, Q3, Q4, Q5, Q6, Q7, Q8, ge_iff_le, gt_iff_lt] at hc10
   ·
    refine wr ?_
    refine ua ?_
    refine u_nil ?_
    refine WP.ret ?_
    refine ret_ok rfl ?_ (by omega) (fun t ht => (hk2 t (by omega)))
    -- ret 2
    clear hK3 hK4
    refine congrArg D.bool ?_
    try simp only [hb.t1, hb.t0, hb.c1, hb.c0, hb.i1, hb.i0, hb.d1, hb.d0, hb.s1, hb.s0] at hc6 hc7 hc10
    try simp only [hb.t1, hb.t0, hb.c1, hb.c0, hb.i1, hb.i0, hb.d1, hb.d0, hb.s1, hb.s0]
    simp only [valuesE, List.length_map] at *
    grind
   ·
    refine wr ?_
    refine um ?_
    refine ub ?_
    refine ub ?_
    refine um ?_
    apply gT
    · rfl
    · intro hg
      exact pf th30 th27 hb2
    apply gT
    · rfl
    · intro hg; try simp only [hg, ct]; try simp only [hg, ct, Bt]
      exact pg th27 hb2
    apply gT
    · rfl
    · intro hg
      exact pf th30 th27 hb2
    apply gT
    · rfl
    · intro hg; try simp only [hg, ct]; try simp only [hg, ct, Bt]
      exact pg th27 hb2
    apply gT
    · rfl
    · intro hg; try simp only [hg, ct]; try simp only [hg, ct, Bt]
      refine o_pcall (pvE (v := e.doc) (w := e.id) (s148 e.doc e.id ok.rd ok.sd (by simp only [hb.d1] at hg; have hi := d_imp_i hg; have hq := hc10; simp only [hb.i1, hi, Bool.true_and, bne_eq_false_iff_eq] at hq; exact check_may hq))) rfl ⟨rfl, rfl, rfl⟩
    apply gT
    · rfl
    · intro hg; try simp only [hg, ct]; try simp only [hg, ct, Bt]
      exact pN
    refine uA ?_
    refine ua ?_
    refine u_nil ?_
    refine wc (fun hc13 => ?_) (fun hc13 => ?_) <;> try simp only [Q0, Q1, Q2, Q3, Q4, Q5, Q6, Q7, Q8, ge_iff_le, gt_iff_lt] at hc13
    ·
     refine wr ?_
     refine ua ?_
     refine u_nil ?_
     refine WP.ret ?_
     refine ret_ok rfl ?_ (by omega) (fun t ht => (hk2 t (by omega)))
     -- ret 3
     clear hK3 hK4
     refine congrArg D.bool ?_
     try simp only [hb.t1, hb.t0, hb.c1, hb.c0, hb.i1, hb.i0, hb.d1, hb.d0, hb.s1, hb.s0] at hc6 hc7 hc10 hc13
     try simp only [hb.t1, hb.t0, hb.c1, hb.c0, hb.i1, hb.i0, hb.d1, hb.d0, hb.s1, hb.s0]
     simp only [valuesE, List.length_map] at *
     grind
    ·
     refine WP.skip ?_
     refine hK3 _ ?_
     refine wr ?_
     refine um ?_
     refine ub ?_
     refine ub ?_
     refine um ?_
     apply gF
     · rfl
     · intro hg
       exact pf th30 th28 hb2
     apply gF
     · rfl
     · intro hg; try simp only [hg, ct]; try simp only [hg, ct, Bt]
       exact pl th28 hb2
     apply gF
     · rfl
     · intro hg; try simp only [hg, ct]; try simp only [hg, ct, Bt]
       refine o_pcall (s149 e.deltas ok.ds) rfl ⟨rfl, rfl, rfl⟩
     refine uO ?_
     refine ua ?_
     refine u_nil ?_
     refine WP.ret ?_
     refine ret_ok rfl ?_ (by omega) (fun t ht => (hk2 t (by omega)))
     -- ret 4
     clear hK3 hK4
     refine congrArg D.bool ?_
     try simp only [hb.t1, hb.t0, hb.c1, hb.c0, hb.i1, hb.i0, hb.d1, hb.d0, hb.s1, hb.s0] at hc6 hc7 hc10 hc13
     try simp only [hb.t1, hb.t0, hb.c1, hb.c0, hb.i1, hb.i0, hb.d1, hb.d0, hb.s1, hb.s0]
     simp only [valuesE, List.length_map] at *
     grind
 ·
  refine wr ?_
  refine um ?_
  refine ub ?_
  refine ub ?_
  refine um ?_
  apply gT
  · rfl
  · intro hg
    exact pf th30 th27 hb2
  apply gT
  · rfl
  · intro hg; try simp only [hg, ct]; try simp only [hg, ct, Bt]
    exact pg th27 hb2
  apply gT
  · rfl
  · intro hg; try simp only [hg, ct]; try simp only [hg, ct, Bt]
    refine o_pcall (pv (v := e.doc) (s147 e.doc ok.sd)) rfl ⟨rfl, rfl, rfl⟩
  apply gT
  · rfl
  · intro hg; try simp only [hg, ct]; try simp only [hg, ct, Bt]
    exact pN
  refine uA ?_
  refine ua ?_
  refine u_nil ?_
  refine wc (fun hc17 => ?_) (fun hc17 => ?_) <;> try simp only [Q0, Q1, Q2, Q3, Q4, Q5, Q6, Q7, Q8, ge_iff_le, gt_iff_lt] at hc17
  ·
   refine WP.skip ?_
   refine hK4 _ ?_
   refine wc (fun hc18 => ?_) (fun hc18 => ?_) <;> try simp only [Q0, Q1, Q2, Q3, Q4, Q5, Q6, Q7, Q8, ge_iff_le, gt_iff_lt] at hc18
   ·
    refine wr ?_
    refine ua ?_
    refine u_nil ?_
    refine WP.ret ?_
    refine ret_ok rfl ?_ (by omega) (fun t ht => (hk2 t (by omega)))
    -- ret 5
    clear hK3 hK4
    refine congrArg D.bool ?_
    try simp only [hb.t1, hb.t0, hb.c1, hb.c0, hb.i1, hb.i0, hb.d1, hb.d0, hb.s1, hb.s0] at hc6 hc17 hc18
    try simp only [hb.t1, hb.t0, hb.c1, hb.c0, hb.i1, hb.i0, hb.d1, hb.d0, hb.s1, hb.s0]
    simp only [valuesE, List.length_map] at *
    grind
   ·
    refine wr ?_
    refine um ?_
    refine ub ?_
    refine ub ?_
    refine um ?_
    apply gT
    · rfl
    · intro hg
      exact pf th30 th27 hb2
    apply gT
    · rfl
    · intro hg; try simp only [hg, ct]; try simp only [hg, ct, Bt]
      exact pg th27 hb2
    apply gT
    · rfl
    · intro hg; try simp only [hg, ct]; try simp only [hg, ct, Bt]
      refine o_pcall (pv (v := e.id) (s123 e.id ok.ri ok.si)) rfl ⟨rfl, rfl, rfl⟩
    apply gT
    · rfl
    · intro hg; try simp only [hg, ct]; try simp only [hg, ct, Bt]
      exact pb
    refine uA ?_
    refine ua ?_
    refine u_nil ?_
    refine wc (fun hc21 => ?_) (fun hc21 => ?_) <;> try simp only [Q0, Q1, Q2, Q3, Q4, Q5, Q6, Q7, Q8, ge_iff_le, gt_iff_lt] at hc21
    ·
     refine wr ?_
     refine ua ?_
     refine u_nil ?_
     refine WP.ret ?_
     refine ret_ok rfl ?_ (by omega) (fun t ht => (hk2 t (by omega)))
     -- ret 6
     clear hK3 hK4
     refine congrArg D.bool ?_
     try simp only [hb.t1, hb.t0, hb.c1, hb.c0, hb.i1, hb.i0, hb.d1, hb.d0, hb.s1, hb.s0] at hc6 hc17 hc18 hc21
     try simp only [hb.t1, hb.t0, hb.c1, hb.c0, hb.i1, hb.i0, hb.d1, hb.d0, hb.s1, hb.s0]
     simp only [valuesE, List.length_map] at *
     grind
    ·
     refine wr ?_
     refine um ?_
     refine ub ?_
     refine ub ?_
     refine um ?_
     apply gT
     · rfl
     · intro hg
       exact pf th30 th27 hb2
     apply gT
     · rfl
     · intro hg; try simp only [hg, ct]; try simp only [hg, ct, Bt]
       exact pg th27 hb2
     apply gT
     · rfl
     · intro hg
       exact pf th30 th27 hb2
     apply gT
     · rfl
     · intro hg; try simp only [hg, ct]; try simp only [hg, ct, Bt]
       exact pg th27 hb2
     apply gT
     · rfl
     · intro hg; try simp only [hg, ct]; try simp only [hg, ct, Bt]
       refine o_pcall (pvE (v := e.doc) (w := e.id) (s148 e.doc e.id ok.rd ok.sd (by simp only [hb.d1] at hg; have hi := d_imp_i hg; have hq := hc21; simp only [hb.i1, hi, Bool.true_and, bne_eq_false_iff_eq] at hq; exact check_may hq))) rfl ⟨rfl, rfl, rfl⟩
     apply gT
     · rfl
     · intro hg; try simp only [hg, ct]; try simp only [hg, ct, Bt]
       exact pN
     refine uA ?_
     refine ua ?_
     refine u_nil ?_
     refine wc (fun hc24 => ?_) (fun hc24 => ?_) <;> try simp only [Q0, Q1, Q2, Q3, Q4, Q5, Q6, Q7, Q8, ge_iff_le, gt_iff_lt] at hc24
     ·
      refine wr ?_
      refine ua ?_
      refine u_nil ?_
      refine WP.ret ?_
      refine ret_ok rfl ?_ (by omega) (fun t ht => (hk2 t (by omega)))
      -- ret 7
      clear hK3 hK4
      refine congrArg D.bool ?_
      try simp only [hb.t1, hb.t0, hb.c1, hb.c0, hb.i1, hb.i0, hb.d1, hb.d0, hb.s1, hb.s0] at hc6 hc17 hc18 hc21 hc24
      try simp only [hb.t1, hb.t0, hb.c1, hb.c0, hb.i1, hb.i0, hb.d1, hb.d0, hb.s1, hb.s0]
      simp only [valuesE, List.length_map] at *
      grind
     ·
      refine WP.skip ?_
      refine hK3 _ ?_
      refine wr ?_
      refine um ?_
      refine ub ?_
      refine ub ?_
      refine um ?_
      apply gF
      · rfl
      · intro hg
        exact pf th30 th28 hb2
      apply gF
      · rfl
      · intro hg; try simp only [hg, ct]; try simp only [hg, ct, Bt]
        exact pl th28 hb2
      apply gF
      · rfl
      · intro hg; try simp only [hg, ct]; try simp only [hg, ct, Bt]
        refine o_pcall (s149 e.deltas ok.ds) rfl ⟨rfl, rfl, rfl⟩
      refine uO ?_
      refine ua ?_
      refine u_nil ?_
      refine WP.ret ?_
      refine ret_ok rfl ?_ (by omega) (fun t ht => (hk2 t (by omega)))
      -- ret 8
      clear hK3 hK4
      refine congrArg D.bool ?_
      try simp only [hb.t1, hb.t0, hb.c1, hb.c0, hb.i1, hb.i0, hb.d1, hb.d0, hb.s1, hb.s0] at hc6 hc17 hc18 hc21 hc24
      try simp only [hb.t1, hb.t0, hb.c1, hb.c0, hb.i1, hb.i0, hb.d1, hb.d0, hb.s1, hb.s0]
      simp only [valuesE, List.length_map] at *
      grind
  ·
   refine WP.reg tabOk rfl ?_
   refine um ?_
   refine ub ?_
   refine ub ?_
   refine um ?_
   apply gT
   · rfl
   · intro hg
     exact pf th30 th28 hb2
   apply gT
   · rfl
   · intro hg; try simp only [hg, ct]; try simp only [hg, ct, Bt]
     exact pl th28 hb2
   apply gT
   · rfl
   · intro hg; try simp only [hg, ct]; try simp only [hg, ct, Bt]
     exact pn th28
   apply gT
   · rfl
   · intro hg; try simp only [hg, ct]; try simp only [hg, ct, Bt]
     exact pb
   refine uA ?_
   refine ua ?_
   refine u_nil ?_
   refine hK4 _ ?_
   refine wc (fun hc27 => ?_) (fun hc27 => ?_) <;> try simp only [Q0, Q1, Q2, Q3, Q4, Q5, Q6, Q7, Q8, ge_iff_le, gt_iff_lt] at hc27
   ·
    refine wr ?_
    refine ua ?_
    refine u_nil ?_
    refine WP.ret ?_
    refine ret_ok rfl ?_ (by omega) (fun t ht => (hk2 t (by omega)))
    -- ret 9
    clear hK3 hK4
    refine congrArg D.bool ?_
    try simp only [hb.t1, hb.t0, hb.c1, hb.c0, hb.i1, hb.i0, hb.d1, hb.d0, hb.s1, hb.s0] at hc6 hc17 hc27
    try simp only [hb.t1, hb.t0, hb.c1, hb.c0, hb.i1, hb.i0, hb.d1, hb.d0, hb.s1, hb.s0]
    simp only [valuesE, List.length_map] at *
    grind
   ·
    refine wr ?_
    refine um ?_
    refine ub ?_
    refine ub ?_
    refine um ?_
    apply gT
    · rfl
    · intro hg
      exact pf th30 th27 hb2
    apply gT
    · rfl
    · intro hg; try simp only [hg, ct]; try simp only [hg, ct, Bt]
      exact pg th27 hb2
    apply gT
    · rfl
    · intro hg; try simp only [hg, ct]; try simp only [hg, ct, Bt]
      refine o_pcall (pv (v := e.id) (s123 e.id ok.ri ok.si)) rfl ⟨rfl, rfl, rfl⟩
    apply gT
    · rfl
    · intro hg; try simp only [hg, ct]; try simp only [hg, ct, Bt]
      exact pb
    refine uA ?_
    refine ua ?_
    refine u_nil ?_
    refine wc (fun hc30 => ?_) (fun hc30 => ?_) <;> try simp only [Q0, Q1, Q2, Q3, Q4, Q5, Q6, Q7, Q8, ge_iff_le, gt_iff_lt] at hc30
    ·
     refine wr ?_
     refine ua ?_
     refine u_nil ?_
     refine WP.ret ?_
     refine ret_ok rfl ?_ (by omega) (fun t ht => (hk2 t (by omega)))
     -- ret 10
     clear hK3 hK4
     refine congrArg D.bool ?_
     try simp only [hb.t1, hb.t0, hb.c1, hb.c0, hb.i1, hb.i0, hb.d1, hb.d0, hb.s1, hb.s0] at hc6 hc17 hc27 hc30
     try simp only [hb.t1, hb.t0, hb.c1, hb.c0, hb.i1, hb.i0, hb.d1, hb.d0, hb.s1, hb.s0]
     simp only [valuesE, List.length_map] at *
     grind
    ·
     refine wr ?_
     refine um ?_
     refine ub ?_
     refine ub ?_
     refine um ?_
     apply gT
     · rfl
     · intro hg
       exact pf th30 th27 hb2
     apply gT
     · rfl
     · intro hg; try simp only [hg, ct]; try simp only [hg, ct, Bt]
       exact pg th27 hb2
     apply gT
     · rfl
     · intro hg
       exact pf th30 th27 hb2
     apply gT
     · rfl
     · intro hg; try simp only [hg, ct]; try simp only [hg, ct, Bt]
       exact pg th27 hb2
     apply gT
     · rfl
     · intro hg; try simp only [hg, ct]; try simp only [hg, ct, Bt]
       refine o_pcall (pvE (v := e.doc) (w := e.id) (s148 e.doc e.id ok.rd ok.sd (by simp only [hb.d1] at hg; have hi := d_imp_i hg; have hq := hc30; simp only [hb.i1, hi, Bool.true_and, bne_eq_false_iff_eq] at hq; exact check_may hq))) rfl ⟨rfl, rfl, rfl⟩
     apply gT
     · rfl
     · intro hg; try simp only [hg, ct]; try simp only [hg, ct, Bt]
       exact pN
     refine uA ?_
     refine ua ?_
     refine u_nil ?_
     refine wc (fun hc33 => ?_) (fun hc33 => ?_) <;> try simp only [Q0, Q1, Q2, Q3, Q4, Q5, Q6, Q7, Q8, ge_iff_le, gt_iff_lt] at hc33
     ·
      refine wr ?_
      refine ua ?_
      refine u_nil ?_
      refine WP.ret ?_
      refine ret_ok rfl ?_ (by omega) (fun t ht => (hk2 t (by omega)))
      -- ret 11
      clear hK3 hK4
      refine congrArg D.bool ?_
      try simp only [hb.t1, hb.t0, hb.c1, hb.c0, hb.i1, hb.i0, hb.d1, hb.d0, hb.s1, hb.s0] at hc6 hc17 hc27 hc30 hc33
      try simp only [hb.t1, hb.t0, hb.c1, hb.c0, hb.i1, hb.i0, hb.d1, hb.d0, hb.s1, hb.s0]
      simp only [valuesE, List.length_map] at *
      grind
     ·
      refine WP.skip ?_
      refine hK3 _ ?_
      refine wr ?_
      refine um ?_
      refine ub ?_
      refine ub ?_
      refine um ?_
      apply gF
      · rfl
      · intro hg
        exact pf th30 th28 hb2
      apply gF
      · rfl
      · intro hg; try simp only [hg, ct]; try simp only [hg, ct, Bt]
        exact pl th28 hb2
      apply gF
      · rfl
      · intro hg; try simp only [hg, ct]; try simp only [hg, ct, Bt]
        refine o_pcall (s149 e.deltas ok.ds) rfl ⟨rfl, rfl, rfl⟩
      refine uO ?_
      refine ua ?_
      refine u_nil ?_
      refine WP.ret ?_
      refine ret_ok rfl ?_ (by omega) (fun t ht => (hk2 t (by omega)))
      -- ret 12
      clear hK3 hK4
      refine congrArg D.bool ?_
      try simp only [hb.t1, hb.t0, hb.c1, hb.c0, hb.i1, hb.i0, hb.d1, hb.d0, hb.s1, hb.s0] at hc6 hc17 hc27 hc30 hc33
      try simp only [hb.t1, hb.t0, hb.c1, hb.c0, hb.i1, hb.i0, hb.d1, hb.d0, hb.s1, hb.s0]
      simp only [valuesE, List.length_map] at *
      grind

end Go.Proofs.YtpkcbdhjnnnkbaaGreat.Abs

set_option linter.unusedVariables false
set_option linter.unusedSimpArgs false
set_option maxRecDepth 10000
namespace Go.Proofs.YtpkcbdhjnnnkbaaGreat.Abs
open Go
theorem may_split {e : Etr} {b : Bool} (h : fieldsV e.kind < 0 → b = true) : b = false → 1 ≤ e.kind ∧ e.kind ≤ 7 := fun hb => by
  have := fields_ok e.kind
  by_cases hf : fieldsV e.kind < 0
  · rw [h hf] at hb; cases hb
  · rw [decide_eq_false hf] at this
    simpa using this.symm

theorem fn45 : FnOk Tryz.prog 45 48 [2] (bodyOf Tryz.f45) := ⟨Tryz.f45, Tryz.func45, by kernel_rfl, by decide, by kernel_rfl, by kernel_rfl⟩
theorem s45 (e : Etr) (ok : OkE e) : PSpec Tryz.prog 45 [.d (encE e)] (.d (.bool (mayE e))) := by
 refine PSpec.of fn45 (by simp) fun o nk => ?_
 refine wr ?_
 refine u_step (g_box rfl fun o2 hb2 hk2 => ?_)
 refine ua ?_
 refine u_nil ?_
 refine wr ?_
 refine uf th30 th3 hb2 ?_
 refine ul th3 hb2 ?_
 refine u_step (o_pcall (s99 e.kind) rfl ?_)
 refine ua ?_
 refine u_nil ?_
 refine WP.seq fun K4 hK4 => ?_
 refine wr ?_
 refine um ?_
 refine ub ?_
 refine um ?_
 apply gF
 · rfl
 · intro hg
   exact pf th30 th3 hb2
 apply gF
 · rfl
 · intro hg; try simp only [hg, ct]; try simp only [hg, ct, Bt]
   exact pl th3 hb2
 apply gF
 · rfl
 · intro hg; try simp only [hg, ct]; try simp only [hg, ct, Bt]
   refine o_pcall (s100 e.term _) rfl ⟨rfl, rfl, rfl⟩
 apply gF
 · rfl
 · intro hg; try simp only [hg, ct]; try simp only [hg, ct, Bt]
   exact pN
 refine uO ?_
 refine um ?_
 apply gF
 · rfl
 · intro hg
   exact pf th30 th3 hb2
 apply gF
 · rfl
 · intro hg; try simp only [hg, ct]; try simp only [hg, ct, Bt]
   exact pl th3 hb2
 apply gF
 · rfl
 · intro hg; try simp only [hg, ct]; try simp only [hg, ct, Bt]
   refine o_pcall (s100 e.session _) rfl ⟨rfl, rfl, rfl⟩
 apply gF
 · rfl
 · intro hg; try simp only [hg, ct]; try simp only [hg, ct, Bt]
   exact pN
 refine uO ?_
 refine um ?_
 apply gF
 · rfl
 · intro hg
   exact pf th30 th3 hb2
 apply gF
 · rfl
 · intro hg; try simp only [hg, ct]; try simp only [hg, ct, Bt]
   exact pl th3 hb2
 apply gF
 · rfl
 · intro hg; try simp only [hg, ct]; try simp only [hg, ct, Bt]
   refine o_pcall (s100 e.number _) rfl ⟨rfl, rfl, rfl⟩
 apply gF
 · rfl
 · intro hg; try simp only [hg, ct]; try simp only [hg, ct, Bt]
   exact pN
 refine uO ?_
 refine u_nil ?_
 refine wc (fun hc6 => ?_) (fun hc6 => ?_) <;> try simp only [Q0, Q1, Q2, Q3, Q4, Q5, Q6, Q7, Q8, ge_iff_le, gt_iff_lt] at hc6
 ·
  refine wr ?_
  refine ua ?_
  refine u_nil ?_
  refine WP.ret ?_
  refine ret_ok rfl ?_ (by omega) (fun t ht => (hk2 t (by omega)))
  -- ret 1
  clear hK4
  refine congrArg D.bool ?_
  have hfk := fields_ok e.kind
  simp only [decide_eq_true_eq, decide_eq_false_iff_not, mayE] at *
  grind
 ·
  have hk := may_split (e := e) (b := _) (fun hf => by simp [hf]) hc6
  refine WP.skip ?_
  refine hK4 _ ?_
  refine WP.seq fun K8 hK8 => ?_
  refine wr ?_
  refine uf th30 th3 hb2 ?_
  refine ul th3 hb2 ?_
  refine ub ?_
  refine um ?_
  apply gT
  · rfl
  · intro hg
    exact pf th30 th3 hb2
  apply gT
  · rfl
  · intro hg; try simp only [hg, ct]; try simp only [hg, ct, Bt]
    exact pl th3 hb2
  apply gT
  · rfl
  · intro hg; try simp only [hg, ct]; try simp only [hg, ct, Bt]
    exact pb
  apply gT
  · rfl
  · intro hg; try simp only [hg, ct]; try simp only [hg, ct, Bt]
    exact pm
  apply u_guard
  · exact GC.cf _ _
  · intro hg
    exact pf th30 th3 hb2
  apply u_guard
  · exact GC.cf _ _
  · intro hg; try simp only [hg, ct]; try simp only [hg, ct, Bt]
    exact pl th3 hb2
  apply u_guard
  · exact GC.cf _ _
  · intro hg; try simp only [hg, ct]; try simp only [hg, ct, Bt]
    exact pb
  apply gT
  · rfl
  · intro hg; try simp only [hg, ct]; try simp only [hg, ct, Bt]
    exact pO
  refine uA ?_
  refine u_nil ?_
  refine wc (fun hc10 => ?_) (fun hc10 => ?_) <;> try simp only [Q0, Q1, Q2, Q3, Q4, Q5, Q6, Q7, Q8, ge_iff_le, gt_iff_lt] at hc10
  ·
   refine wr ?_
   refine ua ?_
   refine u_nil ?_
   refine WP.ret ?_
   refine ret_ok rfl ?_ (by omega) (fun t ht => (hk2 t (by omega)))
   -- ret 2
   clear hK4 hK8
   refine congrArg D.bool ?_
   have hfk := fields_ok e.kind
   simp only [decide_eq_true_eq, decide_eq_false_iff_not, mayE] at *
   grind
  ·
   refine WP.skip ?_
   refine hK8 _ ?_
   refine wr ?_
   refine ug th30 hb2 ?_
   refine um ?_
   refine u_step (o_pcall (s101 e hk) rfl ?_)
   refine um ?_
   apply gT
   · rfl
   · intro hg
     exact pg th30 hb2
   apply gT
   · rfl
   · intro hg
     exact pm
   apply gT
   · rfl
   · intro hg; try simp only [hg, ct]; try simp only [hg, ct, Bt]
     refine o_pcall (s102 e hk ok) rfl ⟨rfl, rfl, rfl⟩
   refine uA ?_
   refine ua ?_
   refine u_nil ?_
   refine WP.ret ?_
   refine ret_ok rfl ?_ (by omega) (fun t ht => (hk2 t (by omega)))
   -- ret 3
   clear hK4 hK8
   refine congrArg D.bool ?_
   have hfk := fields_ok e.kind
   simp only [decide_eq_true_eq, decide_eq_false_iff_not, mayE] at *
   grind

theorem fn24 : FnOk Tryz.prog 24 160 [2] (bodyOf Tryz.f24) := ⟨Tryz.f24, Tryz.func24, by kernel_rfl, by decide, by kernel_rfl, by kernel_rfl⟩
theorem s24 (e : Etr) (ok : OkE e) : PSpec Tryz.prog 24 [.d (encE e)] (.d (.bool (mayE e))) := by
 refine PSpec.of fn24 (by simp) fun o nk => ?_
 refine wr ?_
 refine u_step (g_box rfl fun o2 hb2 hk2 => ?_)
 refine ua ?_
 refine u_nil ?_
 refine WP.seq fun K3 hK3 => ?_
 refine wr ?_
 refine uf th30 th3 hb2 ?_
 refine ul th3 hb2 ?_
 refine ub ?_
 refine um ?_
 apply gF
 · rfl
 · intro hg
   exact pf th30 th3 hb2
 apply gF
 · rfl
 · intro hg; try simp only [hg, ct]; try simp only [hg, ct, Bt]
   exact pl th3 hb2
 apply gF
 · rfl
 · intro hg; try simp only [hg, ct]; try simp only [hg, ct, Bt]
   exact pb
 refine uO ?_
 refine um ?_
 apply gF
 · rfl
 · intro hg
   exact pf th30 th3 hb2
 apply gF
 · rfl
 · intro hg; try simp only [hg, ct]; try simp only [hg, ct, Bt]
   exact pl th3 hb2
 apply gF
 · rfl
 · intro hg; try simp only [hg, ct]; try simp only [hg, ct, Bt]
   exact pb
 refine uO ?_
 refine um ?_
 apply gF
 · rfl
 · intro hg
   exact pf th30 th3 hb2
 apply gF
 · rfl
 · intro hg; try simp only [hg, ct]; try simp only [hg, ct, Bt]
   exact pl th3 hb2
 apply gF
 · rfl
 · intro hg; try simp only [hg, ct]; try simp only [hg, ct, Bt]
   exact pb
 refine uO ?_
 refine um ?_
 apply gF
 · rfl
 · intro hg
   exact pf th30 th3 hb2
 apply gF
 · rfl
 · intro hg; try simp only [hg, ct]; try simp only [hg, ct, Bt]
   exact pl th3 hb2
 apply gF
 · rfl
 · intro hg; try simp only [hg, ct]; try simp only [hg, ct, Bt]
   exact pb
 refine uO ?_
 refine um ?_
 apply gF
 · rfl
 · intro hg
   exact pf th30 th3 hb2
 apply gF
 · rfl
 · intro hg; try simp only [hg, ct]; try simp only [hg, ct, Bt]
   exact pl th3 hb2
 apply gF
 · rfl
 · intro hg; try simp only [hg, ct]; try simp only [hg, ct, Bt]
   exact pb
 refine uO ?_
 refine um ?_
 apply gF
 · rfl
 · intro hg
   exact pf th30 th3 hb2
 apply gF
 · rfl
 · intro hg; try simp only [hg, ct]; try simp only [hg, ct, Bt]
   exact pl th3 hb2
 apply gF
 · rfl
 · intro hg; try simp only [hg, ct]; try simp only [hg, ct, Bt]
   exact pb
 refine uO ?_
 refine um ?_
 apply gF
 · rfl
 · intro hg
   exact pf th30 th3 hb2
 apply gF
 · rfl
 · intro hg; try simp only [hg, ct]; try simp only [hg, ct, Bt]
   exact pl th3 hb2
 apply gF
 · rfl
 · intro hg; try simp only [hg, ct]; try simp only [hg, ct, Bt]
   exact pb
 refine uO ?_
 refine u_nil ?_
 refine wc (fun hc5 => ?_) (fun hc5 => ?_) <;> try simp only [Q0, Q1, Q2, Q3, Q4, Q5, Q6, Q7, Q8, ge_iff_le, gt_iff_lt] at hc5
 ·
  refine wr ?_
  refine ua ?_
  refine u_nil ?_
  refine WP.ret ?_
  refine ret_ok rfl ?_ (by omega) (fun t ht => (hk2 t (by omega)))
  -- ret 1
  clear hK3
  refine congrArg D.bool ?_
  have hcn := coll_nil
  have hdi := @d_imp_i e.kind
  have hl0 : e.deltas.length = 0 ↔ e.deltas = [] := List.length_eq_zero_iff
  simp only [mayE, namesE, valuesE, List.length_map] at *
  grind
 ·
  refine WP.skip ?_
  refine hK3 _ ?_
  refine wr ?_
  refine uf th30 th3 hb2 ?_
  refine ul th3 hb2 ?_
  refine u_step (o_pcall (s64b e.kind) rfl ?_)
  refine u_step (o_moveV (v := .tup _) rfl ?_)
  refine ue ?_
  refine ue ?_
  refine ue ?_
  refine ue ?_
  refine ue ?_
  refine ua ?_
  refine ua ?_
  refine ua ?_
  refine ua ?_
  refine ua ?_
  refine u_nil ?_
  refine WP.seq fun K8 hK8 => ?_
  refine wr ?_
  refine um ?_
  refine uf th30 th9 hb2 ?_
  refine ul th9 hb2 ?_
  refine u_step (o_bin_str rfl (show _ = SV.d (.str []) from rfl) rfl ?_)
  refine u_step (o_bin_neb rfl rfl th4 rfl ?_)
  refine um ?_
  apply gF
  · rfl
  · intro hg
    exact pm
  apply gF
  · rfl
  · intro hg; try simp only [hg, ct]; try simp only [hg, ct, Bt]
    exact pm
  apply u_guard
  · exact GC.ct _ _
  · intro hg
    exact pf th30 th9 hb2
  apply u_guard
  · exact GC.ct _ _
  · intro hg; try simp only [hg, ct]; try simp only [hg, ct, Bt]
    exact pl th9 hb2
  apply u_guard
  · exact GC.ct _ _
  · intro hg; try simp only [hg, ct]; try simp only [hg, ct, Bt]
    refine o_pcall (s49 e.coll) rfl ⟨rfl, rfl, rfl⟩
  apply u_guard
  · exact GC.ct _ _
  · intro hg; try simp only [hg, ct]; try simp only [hg, ct, Bt]
    exact pN
  apply gF
  · rfl
  · intro hg; try simp only [hg, ct]; try simp only [hg, ct, Bt]
    exact pA
  refine uO ?_
  refine um ?_
  apply gF
  · rfl
  · intro hg
    exact pm
  apply gF
  · rfl
  · intro hg
    exact pf th30 th9 hb2
  apply gF
  · rfl
  · intro hg; try simp only [hg, ct]; try simp only [hg, ct, Bt]
    exact pl th9 hb2
  apply gF
  · rfl
  · intro hg; try simp only [hg, ct]; try simp only [hg, ct, Bt]
    refine o_bin_str rfl (show _ = SV.d (.str []) from rfl) rfl ⟨rfl, rfl, rfl⟩
  apply gF
  · rfl
  · intro hg; try simp only [hg, ct]; try simp only [hg, ct, Bt]
    refine o_bin_neb rfl rfl th4 rfl ⟨rfl, rfl, rfl⟩
  refine uO ?_
  refine um ?_
  apply gF
  · rfl
  · intro hg
    exact pm
  apply gF
  · rfl
  · intro hg; try simp only [hg, ct]; try simp only [hg, ct, Bt]
    exact pm
  apply u_guard
  · exact GC.ct _ _
  · intro hg
    exact pf th30 th9 hb2
  apply u_guard
  · exact GC.ct _ _
  · intro hg; try simp only [hg, ct]; try simp only [hg, ct, Bt]
    exact pl th9 hb2
  apply u_guard
  · exact GC.ct _ _
  · intro hg; try simp only [hg, ct]; try simp only [hg, ct, Bt]
    refine o_pcall (s49 e.to) rfl ⟨rfl, rfl, rfl⟩
  apply u_guard
  · exact GC.ct _ _
  · intro hg; try simp only [hg, ct]; try simp only [hg, ct, Bt]
    exact pN
  apply u_guard
  · exact GC.ct _ _
  · intro hg; try simp only [hg, ct]; try simp only [hg, ct, Bt]
    exact pm
  apply u_guard
  · exact GC.cf _ _
  · intro hg
    exact pf th30 th9 hb2
  apply u_guard
  · exact GC.cf _ _
  · intro hg; try simp only [hg, ct]; try simp only [hg, ct, Bt]
    exact pl th9 hb2
  apply u_guard
  · exact GC.cf _ _
  · intro hg
    exact pf th30 th9 hb2
  apply u_guard
  · exact GC.cf _ _
  · intro hg; try simp only [hg, ct]; try simp only [hg, ct, Bt]
    exact pl th9 hb2
  apply u_guard
  · exact GC.cf _ _
  · intro hg; try simp only [hg, ct]; try simp only [hg, ct, Bt]
    exact ps
  apply u_guard
  · exact GC.ct _ _
  · intro hg; try simp only [hg, ct]; try simp only [hg, ct, Bt]
    exact pO
  apply gF
  · rfl
  · intro hg; try simp only [hg, ct]; try simp only [hg, ct, Bt]
    exact pA
  refine uO ?_
  refine u_nil ?_
  refine wc (fun hc10 => ?_) (fun hc10 => ?_) <;> try simp only [Q0, Q1, Q2, Q3, Q4, Q5, Q6, Q7, Q8, ge_iff_le, gt_iff_lt] at hc10
  ·
   refine wr ?_
   refine ua ?_
   refine u_nil ?_
   refine WP.ret ?_
   refine ret_ok rfl ?_ (by omega) (fun t ht => (hk2 t (by omega)))
   -- ret 2
   clear hK3 hK8
   refine congrArg D.bool ?_
   have hcn := coll_nil
   have hdi := @d_imp_i e.kind
   have hl0 : e.deltas.length = 0 ↔ e.deltas = [] := List.length_eq_zero_iff
   simp only [mayE, namesE, valuesE, List.length_map] at *
   grind
  ·
   refine WP.skip ?_
   refine hK8 _ ?_
   refine WP.seq fun K12 hK12 => ?_
   refine wr ?_
   refine um ?_
   refine uN ?_
   refine um ?_
   apply gT
   · rfl
   · intro hg
     exact pf th30 th27 hb2
   apply gT
   · rfl
   · intro hg; try simp only [hg, ct]; try simp only [hg, ct, Bt]
     exact pg th27 hb2
   apply gT
   · rfl
   · intro hg; try simp only [hg, ct]; try simp only [hg, ct, Bt]
     refine o_pcall (pv (v := e.id) (s65 e.id)) rfl ⟨rfl, rfl, rfl⟩
   apply gT
   · rfl
   · intro hg; try simp only [hg, ct]; try simp only [hg, ct, Bt]
     exact pN
   refine uA ?_
   refine um ?_
   apply gF
   · rfl
   · intro hg
     exact pm
   apply gF
   · rfl
   · intro hg; try simp only [hg, ct]; try simp only [hg, ct, Bt]
     exact pm
   apply u_guard
   · exact GC.ct _ _
   · intro hg
     exact pf th30 th27 hb2
   apply u_guard
   · exact GC.ct _ _
   · intro hg; try simp only [hg, ct]; try simp only [hg, ct, Bt]
     exact pg th27 hb2
   apply u_guard
   · exact GC.ct _ _
   · intro hg; try simp only [hg, ct]; try simp only [hg, ct, Bt]
     refine o_pcall (pv (v := e.id) (s66 e.id ok.ri ok.si)) rfl ⟨rfl, rfl, rfl⟩
   apply u_guard
   · exact GC.ct _ _
   · intro hg; try simp only [hg, ct]; try simp only [hg, ct, Bt]
     exact pb
   apply gF
   · rfl
   · intro hg; try simp only [hg, ct]; try simp only [hg, ct, Bt]
     exact pA
   refine uO ?_
   refine u_nil ?_
   refine wc (fun hc14 => ?_) (fun hc14 => ?_) <;> try simp only [Q0, Q1, Q2, Q3, Q4, Q5, Q6, Q7, Q8, ge_iff_le, gt_iff_lt] at hc14
   ·
    refine wr ?_
    refine ua ?_
    refine u_nil ?_
    refine WP.ret ?_
    refine ret_ok rfl ?_ (by omega) (fun t ht => (hk2 t (by omega)))
    -- ret 3
    clear hK3 hK8 hK12
    refine congrArg D.bool ?_
    have hcn := coll_nil
    have hdi := @d_imp_i e.kind
    have hl0 : e.deltas.length = 0 ↔ e.deltas = [] := List.length_eq_zero_iff
    simp only [mayE, namesE, valuesE, List.length_map] at *
    grind
   ·
    refine WP.skip ?_
    refine hK12 _ ?_
    refine WP.seq fun K16 hK16 => ?_
    refine wr ?_
    refine um ?_
    refine uN ?_
    refine um ?_
    apply gT
    · rfl
    · intro hg
      exact pf th30 th27 hb2
    apply gT
    · rfl
    · intro hg; try simp only [hg, ct]; try simp only [hg, ct, Bt]
      exact pg th27 hb2
    apply gT
    · rfl
    · intro hg; try simp only [hg, ct]; try simp only [hg, ct, Bt]
      refine o_pcall (pv (v := e.doc) (s65 e.doc)) rfl ⟨rfl, rfl, rfl⟩
    apply gT
    · rfl
    · intro hg; try simp only [hg, ct]; try simp only [hg, ct, Bt]
      exact pN
    refine uA ?_
    refine um ?_
    apply gF
    · rfl
    · intro hg
      exact pm
    apply gF
    · rfl
    · intro hg; try simp only [hg, ct]; try simp only [hg, ct, Bt]
      exact pm
    apply u_guard
    · exact GC.ct _ _
    · intro hg
      exact pf th30 th27 hb2
    apply u_guard
    · exact GC.ct _ _
    · intro hg; try simp only [hg, ct]; try simp only [hg, ct, Bt]
      exact pg th27 hb2
    apply u_guard
    · exact GC.ct _ _
    · intro hg
      exact pf th30 th27 hb2
    apply u_guard
    · exact GC.ct _ _
    · intro hg; try simp only [hg, ct]; try simp only [hg, ct, Bt]
      exact pg th27 hb2
    apply u_guard
    · exact GC.ct _ _
    · intro hg; try simp only [hg, ct]; try simp only [hg, ct, Bt]
      refine o_pcall (pvE (v := e.doc) (w := e.id) (s67 e.doc e.id ok.rd ok.sd)) rfl ⟨rfl, rfl, rfl⟩
    apply u_guard
    · exact GC.ct _ _
    · intro hg; try simp only [hg, ct]; try simp only [hg, ct, Bt]
      exact pN
    apply gF
    · rfl
    · intro hg; try simp only [hg, ct]; try simp only [hg, ct, Bt]
      exact pA
    refine uO ?_
    refine um ?_
    apply gF
    · rfl
    · intro hg
      exact pm
    apply gF
    · rfl
    · intro hg; try simp only [hg, ct]; try simp only [hg, ct, Bt]
      exact pN
    apply gF
    · rfl
    · intro hg; try simp only [hg, ct]; try simp only [hg, ct, Bt]
      exact pm
    apply u_guard
    · exact GC.ct _ _
    · intro hg
      exact pf th30 th28 hb2
    apply u_guard
    · exact GC.ct _ _
    · intro hg; try simp only [hg, ct]; try simp only [hg, ct, Bt]
      exact pl th28 hb2
    apply u_guard
    · exact GC.ct _ _
    · intro hg; try simp only [hg, ct]; try simp only [hg, ct, Bt]
      exact pn th28
    apply u_guard
    · exact GC.ct _ _
    · intro hg; try simp only [hg, ct]; try simp only [hg, ct, Bt]
      exact pb
    apply gF
    · rfl
    · intro hg; try simp only [hg, ct]; try simp only [hg, ct, Bt]
      exact pA
    refine uO ?_
    refine um ?_
    apply gF
    · rfl
    · intro hg
      exact pm
    apply gF
    · rfl
    · intro hg; try simp only [hg, ct]; try simp only [hg, ct, Bt]
      exact pm
    apply u_guard
    · exact GC.ct _ _
    · intro hg
      exact pf th30 th28 hb2
    apply u_guard
    · exact GC.ct _ _
    · intro hg; try simp only [hg, ct]; try simp only [hg, ct, Bt]
      exact pl th28 hb2
    apply u_guard
    · exact GC.ct _ _
    · intro hg; try simp only [hg, ct]; try simp only [hg, ct, Bt]
      refine o_pcall (s68 e.deltas ok.ds) rfl ⟨rfl, rfl, rfl⟩
    apply u_guard
    · exact GC.ct _ _
    · intro hg; try simp only [hg, ct]; try simp only [hg, ct, Bt]
      exact pN
    apply gF
    · rfl
    · intro hg; try simp only [hg, ct]; try simp only [hg, ct, Bt]
      exact pA
    refine uO ?_
    refine u_nil ?_
    refine wc (fun hc18 => ?_) (fun hc18 => ?_) <;> try simp only [Q0, Q1, Q2, Q3, Q4, Q5, Q6, Q7, Q8, ge_iff_le, gt_iff_lt] at hc18
    ·
     refine wr ?_
     refine ua ?_
     refine u_nil ?_
     refine WP.ret ?_
     refine ret_ok rfl ?_ (by omega) (fun t ht => (hk2 t (by omega)))
     -- ret 4
     clear hK3 hK8 hK12 hK16
     refine congrArg D.bool ?_
     have hcn := coll_nil
     have hdi := @d_imp_i e.kind
     have hl0 : e.deltas.length = 0 ↔ e.deltas = [] := List.length_eq_zero_iff
     simp only [mayE, namesE, valuesE, List.length_map] at *
     grind
    ·
     refine WP.skip ?_
     refine hK16 _ ?_
     refine wr ?_
     refine uf th30 th3 hb2 ?_
     refine ul th3 hb2 ?_
     refine ub ?_
     refine um ?_
     apply gF
     · rfl
     · intro hg
       exact pf th30 th3 hb2
     apply gF
     · rfl
     · intro hg; try simp only [hg, ct]; try simp only [hg, ct, Bt]
       exact pl th3 hb2
     apply gF
     · rfl
     · intro hg; try simp only [hg, ct]; try simp only [hg, ct, Bt]
       exact pb
     apply gF
     · rfl
     · intro hg; try simp only [hg, ct]; try simp only [hg, ct, Bt]
       exact pm
     apply u_guard
     · exact GC.ct _ _
     · intro hg
       exact pf th30 th3 hb2
     apply u_guard
     · exact GC.ct _ _
     · intro hg; try simp only [hg, ct]; try simp only [hg, ct, Bt]
       exact pl th3 hb2
     apply u_guard
     · exact GC.ct _ _
     · intro hg; try simp only [hg, ct]; try simp only [hg, ct, Bt]
       exact pb
     apply gF
     · rfl
     · intro hg; try simp only [hg, ct]; try simp only [hg, ct, Bt]
       exact pA
     refine uO ?_
     refine ua ?_
     refine u_nil ?_
     refine WP.ret ?_
     refine ret_ok rfl ?_ (by omega) (fun t ht => (hk2 t (by omega)))
     -- ret 5
     clear hK3 hK8 hK12 hK16
     refine congrArg D.bool ?_
     have hcn := coll_nil
     have hdi := @d_imp_i e.kind
     have hl0 : e.deltas.length = 0 ↔ e.deltas = [] := List.length_eq_zero_iff
     simp only [mayE, namesE, valuesE, List.length_map] at *
     grind

end Go.Proofs.YtpkcbdhjnnnkbaaGreat.Abs

set_option linter.unusedVariables false
set_option linter.unusedSimpArgs false
namespace Go.Proofs.YtpkcbdhjnnnkbaaGreat.Abs
open Go
section
variable {P : Program} {Θ : Tab} {K : SV → (Nat → Option AO) → Nat → Prop} {sl : Nat → SV} {o : Nat → Option AO} {nk : Nat} {x y ix : Operand} {t e f : Nat}
theorem o_pcallF {g : FuncId} {asx : Array Operand} {ts : Array Nat} {us us2 : List SV} {r : SV} {t1 e1 z : Nat} {xs : List D} (ht : o t1 = some (.row e1 z xs)) (hs : PSpec P g us2 r) (ha : asx.toList.map (ev sl) = us) (hu : us.map (SV.frz t1 (.sl z xs)) = us2)
    (h : ∀ o1, (∀ u, u ≠ t1 → o1 u = o u) → K r o1 nk) : vOp P Θ (.call { callee := .value (.func g), args := asx, argTypes := ts }) ⟨sl, o, nk⟩ K :=
  o_call (Spec.freeze ht (by rw [hu]; exact hs _ nk)) ha (by rintro r' o' nk' ⟨rfl, rfl, rfl⟩; exact h _ fun u hu => by simp [upd, hu])
end
end Go.Proofs.YtpkcbdhjnnnkbaaGreat.Abs

set_option linter.unusedVariables false
set_option linter.unusedSimpArgs false
set_option maxRecDepth 10000
namespace Go.Proofs.YtpkcbdhjnnnkbaaGreat.Abs
open Go
theorem pvv {P : Program} {f : FuncId} {v w : Val} {r : SV} (h : PSpec P f [.d (encV v), .d (encV w)] r) : PSpec P f [.d (.agg (valCells v)), .d (.agg (valCells w))] r := by rw [← encV_eq, ← encV_eq]; exact h
theorem dlt_same {x y : Dlt} : (x.kind != y.kind || x.n != y.n || !decide (x.path = y.path) || !sameV x.value y.value) = true ↔ ¬ x = y := by
  cases x; cases y
  simp only [Dlt.mk.injEq, Bool.or_eq_true, bne_iff_ne, Bool.not_eq_true', decide_eq_false_iff_not, ← Bool.not_eq_true, same_eq, ne_eq]
  grind
open Classical in
noncomputable def sameDs (a b : List Dlt) : Bool := decide (a = b)
open Classical in
noncomputable def sameE (a b : Etr) : Bool := decide (a = b)
theorem sameDs_ne {a b : List Dlt} (h : ¬ a = b) : sameDs a b = false := by simp [sameDs, h]
theorem sameE_refl (a : Etr) : sameE a a = true := by simp [sameE]
theorem sameE_iff {a b : Etr} : sameE a b = true ↔ a.term = b.term ∧ a.kind = b.kind ∧ a.coll = b.coll ∧ a.to = b.to ∧ a.id = b.id ∧ a.doc = b.doc ∧ a.deltas = b.deltas ∧ a.session = b.session ∧ a.number = b.number := by
  cases a; cases b
  simp [sameE]
theorem sameDs_iff {a b : List Dlt} : sameDs a b = true ↔ a = b := by simp [sameDs]
theorem map_snocD {l : List Dlt} {i : Nat} (h : i < l.length) : (l.take (i + 1)).map encD = (l.take i).map encD ++ [encD (l[i]'h)] := by rw [List.take_succ_eq_append_getElem h, List.map_append]; rfl
@[simp] theorem vc_len (v : Val) : (valCells v).length = 5 := by cases v; rfl
def szDn : List Dlt → Nat
  | [] => 0
  | d :: r => szV d.value + d.path.length + 1 + szDn r

theorem fn37 : FnOk Tryz.prog 37 69 [4] (bodyOf Tryz.f37) := ⟨Tryz.f37, Tryz.func37, by kernel_rfl, by decide, by kernel_rfl, by kernel_rfl⟩
theorem s37 (a b : List Dlt) : PSpec Tryz.prog 37 [.d (.sl 8 (a.map encD)), .d (.sl 8 (b.map encD))] (.d (.bool (sameDs a b))) := by
 refine PSpec.bd fun hbd => ?_
 have hx : a.length ≤ 9223372036854775807 := by simpa using hbd.1.1
 refine PSpec.of fn37 (by simp) fun o nk => ?_
 refine wr ?_
 refine ua ?_
 refine u_nil ?_
 refine WP.seq fun K2 hK2 => ?_
 refine wr ?_
 refine um ?_
 refine un th28 ?_
 refine um ?_
 refine un th28 ?_
 refine ub ?_
 refine u_nil ?_
 refine wc (fun hc4 => ?_) (fun hc4 => ?_) <;> try simp only [Q0, Q1, Q2, Q3, Q4, Q5, Q6, Q7, Q8, ge_iff_le, gt_iff_lt] at hc4
 ·
  refine wr ?_
  refine ua ?_
  refine u_nil ?_
  refine WP.ret ?_
  refine ret_ok rfl ?_ (by omega) (fun _ _ => rfl)
  -- ret 1
  refine congrArg D.bool (sameDs_ne ?_).symm
  rintro rfl
  have hl := hc4
  simp at hl
 ·
  have hab : a.length = b.length := by have := hc4; (try simp at this); omega
  refine WP.skip ?_
  refine hK2 _ ?_
  refine WP.seq fun K6 hK6 => ?_
  refine wr ?_
  refine ua ?_
  refine u_nil ?_
  refine WP.block ?_
  refine WP.loopL (ι := Nat) (fun i => ⟨al [(0, .d (.sl 8 (a.map encD))), (1, .d (.sl 8 (b.map encD))), (5, .d (.int .i64 i))], o, nk⟩) (fun i => i ≤ a.length ∧ ∀ (j : Nat) (hj : j < a.length) (hk : j < b.length), j < i → a[j] = b[j]) (fun i => a.length - i) (fun i hA => ?_) 0 ?_ ?_
  ·
   obtain ⟨hle_i, hin_i⟩ := hA
   refine WP.seq fun K8 hK8 => ?_
   refine wr ?_
   refine um ?_
   refine um ?_
   refine un th28 ?_
   refine ub ?_
   refine u_nil ?_
   refine wc (fun hc10 => ?_) (fun hc10 => ?_) <;> try simp only [Q0, Q1, Q2, Q3, Q4, Q5, Q6, Q7, Q8, ge_iff_le, gt_iff_lt] at hc10
   ·
    have hil : i < a.length := by have := hc10; (try simp at this); omega
    have hil2 : i < b.length := by omega
    refine WP.skip ?_
    refine hK8 _ ?_
    refine WP.seq fun K11 hK11 => ?_
    refine WP.block ?_
    refine wd ?_
    refine dm ?_
    refine dm ?_
    first | refine d_step (o_ia_map rfl rfl th28 rfl th83 rfl (by omega) ⟨rfl, rfl, rfl⟩) ?_ | refine d_step (o_ia_vs rfl rfl th28 rfl th83 rfl (by omega) ⟨rfl, rfl, rfl⟩) ?_
    refine dF th83 th3 ?_
    refine dL th3 ?_
    refine dm ?_
    refine dm ?_
    first | refine d_step (o_ia_map rfl rfl th28 rfl th83 rfl (by omega) ⟨rfl, rfl, rfl⟩) ?_ | refine d_step (o_ia_vs rfl rfl th28 rfl th83 rfl (by omega) ⟨rfl, rfl, rfl⟩) ?_
    refine dF th83 th3 ?_
    refine dL th3 ?_
    refine db ?_
    refine dm ?_
    apply d_guard
    · exact GC.f _
    · intro hg
      exact pm
    apply d_guard
    · exact GC.f _
    · intro hg
      exact pm
    apply d_guard
    · exact GC.f _
    · intro hg; try simp only [hg, ct]; try simp only [hg, ct, Bt]
      have hg2 := hg; try simp only [Q0, Q1, Q2, Q3, Q4, Q5, Q6, Q9, Qa, Qb, Qc, Qd] at hg2
      first | refine o_ia_map rfl rfl th28 rfl th83 rfl (by omega) ⟨rfl, rfl, rfl⟩ | refine o_ia_vs rfl rfl th28 rfl th83 rfl (by omega) ⟨rfl, rfl, rfl⟩
    apply d_guard
    · exact GC.f _
    · intro hg; try simp only [hg, ct]; try simp only [hg, ct, Bt]
      exact pF th83 th3
    apply d_guard
    · exact GC.f _
    · intro hg; try simp only [hg, ct]; try simp only [hg, ct, Bt]
      exact pL th3
    apply d_guard
    · exact GC.f _
    · intro hg
      exact pm
    apply d_guard
    · exact GC.f _
    · intro hg
      exact pm
    apply d_guard
    · exact GC.f _
    · intro hg; try simp only [hg, ct]; try simp only [hg, ct, Bt]
      have hg2 := hg; try simp only [Q0, Q1, Q2, Q3, Q4, Q5, Q6, Q9, Qa, Qb, Qc, Qd] at hg2
      first | refine o_ia_map rfl rfl th28 rfl th83 rfl (by omega) ⟨rfl, rfl, rfl⟩ | refine o_ia_vs rfl rfl th28 rfl th83 rfl (by omega) ⟨rfl, rfl, rfl⟩
    apply d_guard
    · exact GC.f _
    · intro hg; try simp only [hg, ct]; try simp only [hg, ct, Bt]
      exact pF th83 th3
    apply d_guard
    · exact GC.f _
    · intro hg; try simp only [hg, ct]; try simp only [hg, ct, Bt]
      exact pL th3
    apply d_guard
    · exact GC.f _
    · intro hg; try simp only [hg, ct]; try simp only [hg, ct, Bt]
      exact pb
    refine dO ?_
    refine dm ?_
    apply d_guard
    · exact GC.f _
    · intro hg
      exact pm
    apply d_guard
    · exact GC.f _
    · intro hg
      exact pm
    apply d_guard
    · exact GC.f _
    · intro hg; try simp only [hg, ct]; try simp only [hg, ct, Bt]
      have hg2 := hg; try simp only [Q0, Q1, Q2, Q3, Q4, Q5, Q6, Q9, Qa, Qb, Qc, Qd] at hg2
      first | refine o_ia_map rfl rfl th28 rfl th83 rfl (by omega) ⟨rfl, rfl, rfl⟩ | refine o_ia_vs rfl rfl th28 rfl th83 rfl (by omega) ⟨rfl, rfl, rfl⟩
    apply d_guard
    · exact GC.f _
    · intro hg; try simp only [hg, ct]; try simp only [hg, ct, Bt]
      exact pF th83 th22
    apply d_guard
    · exact GC.f _
    · intro hg; try simp only [hg, ct]; try simp only [hg, ct, Bt]
      exact pL th22
    apply d_guard
    · exact GC.f _
    · intro hg
      exact pm
    apply d_guard
    · exact GC.f _
    · intro hg
      exact pm
    apply d_guard
    · exact GC.f _
    · intro hg; try simp only [hg, ct]; try simp only [hg, ct, Bt]
      have hg2 := hg; try simp only [Q0, Q1, Q2, Q3, Q4, Q5, Q6, Q9, Qa, Qb, Qc, Qd] at hg2
      first | refine o_ia_map rfl rfl th28 rfl th83 rfl (by omega) ⟨rfl, rfl, rfl⟩ | refine o_ia_vs rfl rfl th28 rfl th83 rfl (by omega) ⟨rfl, rfl, rfl⟩
    apply d_guard
    · exact GC.f _
    · intro hg; try simp only [hg, ct]; try simp only [hg, ct, Bt]
      exact pF th83 th22
    apply d_guard
    · exact GC.f _
    · intro hg; try simp only [hg, ct]; try simp only [hg, ct, Bt]
      exact pL th22
    apply d_guard
    · exact GC.f _
    · intro hg; try simp only [hg, ct]; try simp only [hg, ct, Bt]
      refine o_pcall (s91 (a[i].path) (b[i].path)) rfl ⟨rfl, rfl, rfl⟩
    apply d_guard
    · exact GC.f _
    · intro hg; try simp only [hg, ct]; try simp only [hg, ct, Bt]
      exact pN
    refine dO ?_
    refine dm ?_
    apply d_guard
    · exact GC.f _
    · intro hg
      exact pm
    apply d_guard
    · exact GC.f _
    · intro hg
      exact pm
    apply d_guard
    · exact GC.f _
    · intro hg; try simp only [hg, ct]; try simp only [hg, ct, Bt]
      have hg2 := hg; try simp only [Q0, Q1, Q2, Q3, Q4, Q5, Q6, Q9, Qa, Qb, Qc, Qd] at hg2
      first | refine o_ia_map rfl rfl th28 rfl th83 rfl (by omega) ⟨rfl, rfl, rfl⟩ | refine o_ia_vs rfl rfl th28 rfl th83 rfl (by omega) ⟨rfl, rfl, rfl⟩
    apply d_guard
    · exact GC.f _
    · intro hg; try simp only [hg, ct]; try simp only [hg, ct, Bt]
      exact pF th83 th27
    apply d_guard
    · exact GC.f _
    · intro hg; try simp only [hg, ct]; try simp only [hg, ct, Bt]
      exact pL th27
    apply d_guard
    · exact GC.f _
    · intro hg
      exact pm
    apply d_guard
    · exact GC.f _
    · intro hg
      exact pm
    apply d_guard
    · exact GC.f _
    · intro hg; try simp only [hg, ct]; try simp only [hg, ct, Bt]
      have hg2 := hg; try simp only [Q0, Q1, Q2, Q3, Q4, Q5, Q6, Q9, Qa, Qb, Qc, Qd] at hg2
      first | refine o_ia_map rfl rfl th28 rfl th83 rfl (by omega) ⟨rfl, rfl, rfl⟩ | refine o_ia_vs rfl rfl th28 rfl th83 rfl (by omega) ⟨rfl, rfl, rfl⟩
    apply d_guard
    · exact GC.f _
    · intro hg; try simp only [hg, ct]; try simp only [hg, ct, Bt]
      exact pF th83 th27
    apply d_guard
    · exact GC.f _
    · intro hg; try simp only [hg, ct]; try simp only [hg, ct, Bt]
      exact pL th27
    apply d_guard
    · exact GC.f _
    · intro hg; try simp only [hg, ct]; try simp only [hg, ct, Bt]
      refine o_pcall (pvv (s30 a[i].value b[i].value)) rfl ⟨rfl, rfl, rfl⟩
    apply d_guard
    · exact GC.f _
    · intro hg; try simp only [hg, ct]; try simp only [hg, ct, Bt]
      exact pN
    refine dO ?_
    refine d_nil ?_
    refine wc (fun hc13 => ?_) (fun hc13 => ?_) <;> try simp only [Q0, Q1, Q2, Q3, Q4, Q5, Q6, Q7, Q8, ge_iff_le, gt_iff_lt] at hc13
    ·
     refine wr ?_
     refine ua ?_
     refine u_nil ?_
     refine WP.ret ?_
     refine ret_ok rfl ?_ (by omega) (fun _ _ => rfl)
     -- ret 2
     refine congrArg D.bool (sameDs_ne ?_).symm
     rintro rfl
     have hl := hc13
     exact absurd rfl (dlt_same.1 hl)
    ·
     refine WP.skip ?_
     refine hK11 _ ?_
     refine WP.reg tabOk rfl ?_
     refine um ?_
     refine ub ?_
     refine ua ?_
     refine u_nil ?_
     -- back
     refine ⟨i + 1, ⟨by omega, ?_⟩, by omega, ?_⟩
     · intro j hj hk h1
       by_cases h2 : j = i
       · subst h2; have hl := hc13; exact Classical.byContradiction fun hne => by rw [dlt_same.2 hne] at hl; cases hl
       · exact hin_i j hj hk (by omega)
     · refine Le.al ?_
       simp only [List.forall_mem_cons]
       exact ⟨rfl, rfl, cnt (by omega), by simp⟩
   ·
    refine WP.exit ?_
    refine hK6 _ ?_
    refine wr ?_
    refine ua ?_
    refine u_nil ?_
    refine WP.ret ?_
    refine ret_ok rfl ?_ (by omega) (fun _ _ => rfl)
    -- ret 3
    refine congrArg D.bool ?_
    exact (sameDs_iff.2 (List.ext_getElem hab fun j h1 h2 => hin_i j h1 h2 (by omega))).symm
  ·
   simp
  ·
   refine Le.al ?_
   simp only [List.forall_mem_cons]
   exact ⟨rfl, rfl, rfl, by simp⟩

theorem fn75 : FnOk Tryz.prog 75 26 [2] (bodyOf Tryz.f75) := ⟨Tryz.f75, Tryz.func75, by kernel_rfl, by decide, by kernel_rfl, by kernel_rfl⟩
theorem s75 (l : List Dlt) (hl : l.length ≤ 1099511627776) (hs : ∀ d ∈ l, szV d.value ≤ 1099511627776 ∧ d.path.length ≤ 1099511627776) : DSpec Tryz.prog 75 [.d (.sl 8 (l.map encD))] 83 8 (l.map encD) := by
 have hln : (l.map encD).length = l.length := List.length_map _
 refine DSpec.of fn75 (by simp) fun o nk => ?_
 refine wr ?_
 refine ua ?_
 refine u_nil ?_
 refine wr ?_
 refine ua ?_
 refine u_nil ?_
 refine WP.seq fun K3 hK3 => ?_
 refine wr ?_
 refine um ?_
 refine un th28 ?_
 refine um ?_
 refine u_nil ?_
 refine WP.block ?_
 refine WP.loopL (ι := Nat × SV × Option Nat × (Nat → Option AO) × Nat) (fun ⟨i, c, q, o2, nk2⟩ => ⟨al [(3, c), (6, .d (.sl 8 (l.map encD))), (7, .d (.int .i64 (l.map encD).length)), (8, .d (.int .i64 i))], o2, nk2⟩) (fun ⟨i, c, q, o2, nk2⟩ => i ≤ l.length ∧ nk ≤ nk2 ∧ dstOf o2 83 8 c = some (q, (l.take i).map encD) ∧ (∀ t, q = some t → nk ≤ t ∧ t < nk2) ∧ ∀ t, t < nk → o2 t = o t) (fun ⟨i, c, q, o2, nk2⟩ => l.length - i) (fun ⟨i, c, q, o2, nk2⟩ hA => ?_) ⟨0, .d .nil, none, o, nk⟩ ?_ ?_
 ·
  obtain ⟨hle, hnk, hd, hq, hfr⟩ := hA
  refine wr ?_
  refine ub ?_
  refine u_nil ?_
  refine WP.seq fun K6 hK6 => ?_
  refine wc (fun hc7 => ?_) (fun hc7 => ?_) <;> try simp only [Q0, Q1, Q2, Q3, Q4, Q5, Q6, Q7, Q8, ge_iff_le, gt_iff_lt] at hc7
  ·
   have hil : i < l.length := by have := hc7; (try simp at this); omega
   refine WP.skip ?_
   refine hK6 _ ?_
   refine WP.seq fun K8 hK8 => ?_
   refine WP.block ?_
   refine wr ?_
   first | refine u_step (o_ia_map rfl rfl th28 rfl th83 rfl (by omega) ?_) | refine u_step (o_ia_vs rfl rfl th28 rfl th83 rfl (by omega) ?_)
   refine uL th83 ?_
   refine u_step (g_alloc th83 rfl fun o10 hb10 hk10 => ?_)
   have hd_10 := dst_keep hd fun t e => hk10 t (by have := hq t e; omega)
   refine u_step0 (g_sta rfl rfl th83 rfl hb10 (by first | (simp; done) | (simp [D.leaves, D.width, valCells]; done) | decide) fun o11 hb11 hk11 => ?_)
   have hd_11 := dst_keep hd_10 fun t e => hk11 t (by have := hq t e; omega)
   refine u_nil ?_
   refine WP.seq fun K12 hK12 => ?_
   refine WP.dr2 [.q 0 0, .q 0 0, .q 0 0, .q 0 0, .q 0 0, .q 0 0, .q 0 0, .w 0, .q 1 1, .w 1] [7, 9] (nk2 + 1) (nk2 + 1) tabOk (by kernel_rfl) rfl (by kernel_rfl) (by kernel_rfl) ?_
   apply Exists.intro
   apply Exists.intro
   refine e_step rfl (o_fa_loc rfl th83 rfl rfl th22 (by decide) hb11 ⟨rfl, rfl, rfl⟩) ?_
   refine e_step rfl (o_ld_loc rfl th22 rfl hb11 rfl ⟨rfl, rfl, rfl⟩) ?_
   refine e_step rfl (o_pcall ((s127 l[i].path (hs _ (List.getElem_mem _)).2).frz) rfl ⟨rfl, rfl, rfl⟩) ?_
   refine e_step rfl (o_fa_loc rfl th83 rfl rfl th27 (by decide) hb11 ⟨rfl, rfl, rfl⟩) ?_
   refine e_step rfl (o_ld_agg rfl th27 rfl hb11 rfl rfl rfl ⟨rfl, rfl, rfl⟩) ?_
   refine e_step rfl (o_pcall (pv (v := l[i].value) (s77 l[i].value (hs _ (List.getElem_mem _)).1)) rfl ⟨rfl, rfl, rfl⟩) ?_
   refine e_step rfl (o_fa_loc rfl th83 rfl rfl th22 (by decide) hb11 ⟨rfl, rfl, rfl⟩) ?_
   refine e_w0 rfl rfl (o_st_leaf rfl rfl rfl th22 rfl hb11 (by simp) ⟨rfl, rfl, rfl⟩) ?_
   refine e_step rfl (o_fa_loc rfl th83 rfl rfl th27 (by decide) (upd_same _ _ _) ⟨rfl, rfl, rfl⟩) ?_
   refine e_w0 rfl rfl (o_st_agg rfl (congrArg SV.d (encV_eq _)) th27 rfl (upd_same _ _ _) (by simp [vc_len]) ⟨rfl, rfl, rfl⟩) ?_
   refine e_nil rfl fun o15 ho15 => ?_
   have hdC_15 := dst_keep (o' := o15) hd_11 fun t e => (by have := hq t e; exact (ho15 t).trans ((upd_ne _ _ (by omega)).trans (upd_ne _ _ (by omega))))
   have hbb10_15 := (ho15 _).trans (upd_same _ _ _)
   have hk15 : ∀ t, t < nk → o15 t = o11 t := fun t ht => (ho15 t).trans ((upd_ne _ _ (by omega)).trans (upd_ne _ _ (by omega)))
   refine hK12 _ ?_
   refine WP.reg tabOk rfl ?_
   refine u_step (o_moveV (v := c) rfl ?_)
   refine ug th83 hbb10_15 ?_
   first | refine u_step (o_bs rfl th28 rfl th83 rfl rfl (by decide) rfl (by decide) (by decide) ?_) | refine u_step (o_bs1 rfl (by simp only [encV_width]) th28 rfl th83 rfl rfl (by decide) (by decide) ?_)
   refine u_step (g_apD2 rfl th28 rfl th83 rfl rfl (by decide) rfl hdC_15 (by simp only [List.length_map, List.length_take, List.length_cons, List.length_nil]; omega) (by simp only [List.length_map, List.length_take, List.length_cons, List.length_nil]; omega) fun o16 hb16 hk16 => ?_)
   have hbb10_16 := (hk16 _ (by omega) (fun e => by have := hq _ e.symm; omega)).trans hbb10_15
   refine u_step (o_assignV (v := .row _) rfl ?_)
   refine u_nil ?_
   refine hK8 _ ?_
   refine WP.reg tabOk rfl ?_
   refine ub ?_
   refine um ?_
   refine u_nil ?_
   -- back
   refine ⟨⟨i + 1, .row _, some _, o16, ((nk2 + 1) + 1)⟩, ⟨by omega, by omega, (map_snocD (l := l) (i := i) (by omega)) ▸ dst_row hb16, fun t e => by injection e with e; omega, (fun t ht => (hk16 t (by omega) (fun e => by have := hq _ e.symm; omega)).trans ((hk15 t (by omega)).trans ((hk11 t (by omega)).trans ((hk10 t (by omega)).trans ((hfr t (by omega)))))))⟩, by simp only; omega, ?_⟩
   refine Le.al ?_
   simp only [List.forall_mem_cons]
   exact ⟨rfl, rfl, rfl, cnt (by omega), by simp⟩
  ·
   refine WP.exit ?_
   refine hK3 _ ?_
   refine wr ?_
   refine u_step (o_moveV (v := c) rfl ?_)
   refine u_step (o_assignV (v := c) rfl ?_)
   refine u_nil ?_
   refine WP.ret ?_
   refine ddst_ok hd ?_ (fun t e => by have := hq t e; omega) (by omega) (fun t ht => (hfr t (by omega)))
   rw [List.take_of_length_le (by omega)]
 ·
  refine ⟨by omega, by omega, rfl, by simp, (fun _ _ => rfl)⟩
 ·
  refine Le.al ?_
  simp only [List.forall_mem_cons]
  exact ⟨rfl, rfl, rfl, rfl, by simp⟩

theorem fn46 : FnOk Tryz.prog 46 66 [4] (bodyOf Tryz.f46) := ⟨Tryz.f46, Tryz.func46, by kernel_rfl, by decide, by kernel_rfl, by kernel_rfl⟩
theorem s46 (a b : Etr) : PSpec Tryz.prog 46 [.d (encE a), .d (encE b)] (.d (.bool (sameE a b))) := by
 refine PSpec.of fn46 (by simp) fun o nk => ?_
 refine wr ?_
 refine u_step (g_box rfl fun o2 hb2 hk2 => ?_)
 refine u_step (g_box rfl fun o3 hb3 hk3 => ?_)
 have hb2_3 := (hk3 _ (by omega)).trans hb2
 refine ua ?_
 refine u_nil ?_
 refine wr ?_
 refine uf th30 th3 hb2_3 ?_
 refine ul th3 hb2_3 ?_
 refine uf th30 th3 hb3 ?_
 refine ul th3 hb3 ?_
 refine ub ?_
 refine um ?_
 apply gT
 · rfl
 · intro hg
   exact pf th30 th3 hb2_3
 apply gT
 · rfl
 · intro hg; try simp only [hg, ct]; try simp only [hg, ct, Bt]
   exact pl th3 hb2_3
 apply gT
 · rfl
 · intro hg
   exact pf th30 th3 hb3
 apply gT
 · rfl
 · intro hg; try simp only [hg, ct]; try simp only [hg, ct, Bt]
   exact pl th3 hb3
 apply gT
 · rfl
 · intro hg; try simp only [hg, ct]; try simp only [hg, ct, Bt]
   exact pb
 refine uA ?_
 refine um ?_
 apply gT
 · rfl
 · intro hg
   exact pf th30 th9 hb2_3
 apply gT
 · rfl
 · intro hg; try simp only [hg, ct]; try simp only [hg, ct, Bt]
   exact pl th9 hb2_3
 apply gT
 · rfl
 · intro hg
   exact pf th30 th9 hb3
 apply gT
 · rfl
 · intro hg; try simp only [hg, ct]; try simp only [hg, ct, Bt]
   exact pl th9 hb3
 apply gT
 · rfl
 · intro hg; try simp only [hg, ct]; try simp only [hg, ct, Bt]
   exact ps
 refine uA ?_
 refine um ?_
 apply gT
 · rfl
 · intro hg
   exact pf th30 th9 hb2_3
 apply gT
 · rfl
 · intro hg; try simp only [hg, ct]; try simp only [hg, ct, Bt]
   exact pl th9 hb2_3
 apply gT
 · rfl
 · intro hg
   exact pf th30 th9 hb3
 apply gT
 · rfl
 · intro hg; try simp only [hg, ct]; try simp only [hg, ct, Bt]
   exact pl th9 hb3
 apply gT
 · rfl
 · intro hg; try simp only [hg, ct]; try simp only [hg, ct, Bt]
   exact ps
 refine uA ?_
 refine um ?_
 apply gT
 · rfl
 · intro hg
   exact pf th30 th27 hb2_3
 apply gT
 · rfl
 · intro hg; try simp only [hg, ct]; try simp only [hg, ct, Bt]
   exact pg th27 hb2_3
 apply gT
 · rfl
 · intro hg
   exact pf th30 th27 hb3
 apply gT
 · rfl
 · intro hg; try simp only [hg, ct]; try simp only [hg, ct, Bt]
   exact pg th27 hb3
 apply gT
 · rfl
 · intro hg; try simp only [hg, ct]; try simp only [hg, ct, Bt]
   refine o_pcall (pvv (s30 a.id b.id)) rfl ⟨rfl, rfl, rfl⟩
 refine uA ?_
 refine um ?_
 apply gT
 · rfl
 · intro hg
   exact pf th30 th27 hb2_3
 apply gT
 · rfl
 · intro hg; try simp only [hg, ct]; try simp only [hg, ct, Bt]
   exact pg th27 hb2_3
 apply gT
 · rfl
 · intro hg
   exact pf th30 th27 hb3
 apply gT
 · rfl
 · intro hg; try simp only [hg, ct]; try simp only [hg, ct, Bt]
   exact pg th27 hb3
 apply gT
 · rfl
 · intro hg; try simp only [hg, ct]; try simp only [hg, ct, Bt]
   refine o_pcall (pvv (s30 a.doc b.doc)) rfl ⟨rfl, rfl, rfl⟩
 refine uA ?_
 refine um ?_
 apply gT
 · rfl
 · intro hg
   exact pf th30 th28 hb2_3
 apply gT
 · rfl
 · intro hg; try simp only [hg, ct]; try simp only [hg, ct, Bt]
   exact pl th28 hb2_3
 apply gT
 · rfl
 · intro hg
   exact pf th30 th28 hb3
 apply gT
 · rfl
 · intro hg; try simp only [hg, ct]; try simp only [hg, ct, Bt]
   exact pl th28 hb3
 apply gT
 · rfl
 · intro hg; try simp only [hg, ct]; try simp only [hg, ct, Bt]
   refine o_pcall (s37 a.deltas b.deltas) rfl ⟨rfl, rfl, rfl⟩
 refine uA ?_
 refine um ?_
 apply gT
 · rfl
 · intro hg
   exact pf th30 th3 hb2_3
 apply gT
 · rfl
 · intro hg; try simp only [hg, ct]; try simp only [hg, ct, Bt]
   exact pl th3 hb2_3
 apply gT
 · rfl
 · intro hg
   exact pf th30 th3 hb3
 apply gT
 · rfl
 · intro hg; try simp only [hg, ct]; try simp only [hg, ct, Bt]
   exact pl th3 hb3
 apply gT
 · rfl
 · intro hg; try simp only [hg, ct]; try simp only [hg, ct, Bt]
   exact pb
 refine uA ?_
 refine um ?_
 apply gT
 · rfl
 · intro hg
   exact pf th30 th3 hb2_3
 apply gT
 · rfl
 · intro hg; try simp only [hg, ct]; try simp only [hg, ct, Bt]
   exact pl th3 hb2_3
 apply gT
 · rfl
 · intro hg
   exact pf th30 th3 hb3
 apply gT
 · rfl
 · intro hg; try simp only [hg, ct]; try simp only [hg, ct, Bt]
   exact pl th3 hb3
 apply gT
 · rfl
 · intro hg; try simp only [hg, ct]; try simp only [hg, ct, Bt]
   exact pb
 refine uA ?_
 refine ua ?_
 refine u_nil ?_
 refine WP.ret ?_
 refine ret_ok rfl ?_ (by omega) (fun t ht => (hk3 t (by omega)).trans ((hk2 t (by omega))))
 -- ret 1
 skip
 refine congrArg D.bool ?_
 rw [Bool.eq_iff_iff, sameE_iff]
 simp only [Bool.and_eq_true, beq_iff_eq, decide_eq_true_eq, sameDs_iff, same_eq]
 grind

theorem fn47 : FnOkC Tryz.prog 47 16 [.cell 2 30] (bodyOf Tryz.f47) := ⟨Tryz.f47, Tryz.func47, by kernel_rfl, by decide, by kernel_rfl, by kernel_rfl⟩
theorem s47 (e : Etr) (hi : szV e.id ≤ 1099511627776) (hd : szV e.doc ≤ 1099511627776) (hl : e.deltas.length ≤ 1099511627776) (hs : ∀ d ∈ e.deltas, szV d.value ≤ 1099511627776 ∧ d.path.length ≤ 1099511627776) : PSpec Tryz.prog 47 [.d (encE e)] (.d (encE e)) := by
 refine PSpec.ofC1 tabOk fn47 (by simp) fun o nk => ?_
 refine wr ?_
 refine u_step (g_box rfl fun o2 hb2 hk2 => ?_)
 refine u_step (g_alloc th30 rfl fun o3 hb3 hk3 => ?_)
 have hb2_3 := (hk3 _ (by omega)).trans hb2
 refine u_nil ?_
 refine WP.seq fun K4 hK4 => ?_
 refine WP.dr3 [.q 0 0, .q 0 0, .q 0 0, .q 0 0, .q 0 0, .q 0 0, .q 0 0, .q 0 0, .q 0 0, .q 0 0, .w 0, .q 1 1, .w 1, .q 2 2, .w 2] [10, 12, 14] ((nk + 1) + 1) ((nk + 1) + 1) ((nk + 1) + 1) tabOk (by kernel_rfl) rfl (by kernel_rfl) (by kernel_rfl) ?_
 apply Exists.intro
 apply Exists.intro
 apply Exists.intro
 refine e_step rfl (o_fa_loc rfl th30 rfl rfl th27 (by decide) hb2_3 ⟨rfl, rfl, rfl⟩) ?_
 refine e_step rfl (o_ld_agg rfl th27 rfl hb2_3 rfl rfl rfl ⟨rfl, rfl, rfl⟩) ?_
 refine e_step rfl (o_pcall (pv (v := e.id) (s77 e.id hi)) rfl ⟨rfl, rfl, rfl⟩) ?_
 refine e_step rfl (o_fa_loc rfl th30 rfl rfl th27 (by decide) hb2_3 ⟨rfl, rfl, rfl⟩) ?_
 refine e_step rfl (o_ld_agg rfl th27 rfl hb2_3 rfl rfl rfl ⟨rfl, rfl, rfl⟩) ?_
 refine e_step rfl (o_pcall (pv (v := e.doc) (s77 e.doc hd)) rfl ⟨rfl, rfl, rfl⟩) ?_
 refine e_step rfl (o_fa_loc rfl th30 rfl rfl th28 (by decide) hb2_3 ⟨rfl, rfl, rfl⟩) ?_
 refine e_step rfl (o_ld_loc rfl th28 rfl hb2_3 rfl ⟨rfl, rfl, rfl⟩) ?_
 refine e_step rfl (o_pcall ((s75 e.deltas hl hs).frz) rfl ⟨rfl, rfl, rfl⟩) ?_
 refine e_step rfl (o_fa_loc rfl th30 rfl rfl th27 (by decide) hb2_3 ⟨rfl, rfl, rfl⟩) ?_
 refine e_w0 rfl rfl (o_st_agg rfl (congrArg SV.d (encV_eq _)) th27 rfl hb2_3 (by simp [vc_len]) ⟨rfl, rfl, rfl⟩) ?_
 refine e_step rfl (o_fa_loc rfl th30 rfl rfl th27 (by decide) (upd_same _ _ _) ⟨rfl, rfl, rfl⟩) ?_
 refine e_w0 rfl rfl (o_st_agg rfl (congrArg SV.d (encV_eq _)) th27 rfl (upd_same _ _ _) (by simp [vc_len]) ⟨rfl, rfl, rfl⟩) ?_
 refine e_step rfl (o_fa_loc rfl th30 rfl rfl th28 (by decide) (upd_same _ _ _) ⟨rfl, rfl, rfl⟩) ?_
 refine e_w0 rfl rfl (o_st_leaf rfl rfl rfl th28 rfl (upd_same _ _ _) (by simp) ⟨rfl, rfl, rfl⟩) ?_
 refine e_nil rfl fun o8 ho8 => ?_
 have hbb3_8 := (ho8 _).trans ((upd_ne _ _ (by omega)).trans ((upd_ne _ _ (by omega)).trans ((upd_ne _ _ (by omega)).trans hb3)))
 have hbb2_8 := (ho8 _).trans (upd_same _ _ _)
 have hk8 : ∀ t, t < nk → o8 t = o3 t := fun t ht => (ho8 t).trans ((upd_ne _ _ (by omega)).trans ((upd_ne _ _ (by omega)).trans (upd_ne _ _ (by omega))))
 refine hK4 _ ?_
 refine wr ?_
 refine ug th30 hbb2_8 ?_
 refine u_step0 (g_sta rfl rfl th30 rfl hbb3_8 (by first | (simp; done) | (simp [D.leaves, D.width, valCells]; done) | decide) fun o10 hb10 hk10 => ?_)
 have hbb2_10 := (hk10 _ (by omega)).trans hbb2_8
 refine u_nil ?_
 refine WP.ret ?_
 refine retC1_ok (resis_agg rfl th30 rfl hb10 rfl rfl rfl) ?_ (by omega) (fun t ht => (hk10 t (by omega)).trans ((hk8 t (by omega)).trans ((hk3 t (by omega)).trans ((hk2 t (by omega))))))
 rfl

end Go.Proofs.YtpkcbdhjnnnkbaaGreat.Abs

set_option linter.unusedVariables false
set_option linter.unusedSimpArgs false
set_option maxRecDepth 10000
namespace Go.Proofs.YtpkcbdhjnnnkbaaGreat.Abs
open Go
def kindIn (ks k : Int) : Bool := decide (ks / ((2 ^ k.toNat : Nat) : Int) % 2 = 1)
theorem and_tab : ∀ n : Nat, n < 256 → ∀ k : Nat, k < 8 → (bitsOf .and .i64 (n : Int) ((2 ^ k : Nat) : Int) == 0) = !decide ((n : Int) / ((2 ^ k : Nat) : Int) % 2 = 1) := by decide +kernel
theorem or_tab : ∀ n : Nat, n < 256 → ∀ k : Nat, k < 8 → bitsOf .or .i64 (n : Int) ((2 ^ k : Nat) : Int) = ((n ||| 2 ^ k : Nat) : Int) ∧ n ||| 2 ^ k < 256 := by decide +kernel
theorem low_tab : ∀ n : Nat, n < 256 → n % 4 = 0 → n &&& 18446744073709551363 = 0 := by decide +kernel
theorem and_kind {ks k : Int} (h1 : 0 ≤ ks) (h2 : ks < 256) (h3 : 0 ≤ k) (h4 : k ≤ 7) : (bitsOf .and .i64 ks ((2 ^ k.toNat : Nat) : Int) == 0) = !kindIn ks k := by
  obtain ⟨n, rfl⟩ := Int.eq_ofNat_of_zero_le h1
  exact and_tab n (by omega) k.toNat (by omega)
theorem quo_kind {ks k : Int} (h1 : 0 ≤ ks) (h2 : ks < 256) : (IntKind.i64.wrap (ks.tdiv ((2 ^ k.toNat : Nat) : Int))).tmod 2 = ks / ((2 ^ k.toNat : Nat) : Int) % 2 := by
  have hp : (0 : Int) < ((2 ^ k.toNat : Nat) : Int) := by have := Nat.two_pow_pos k.toNat; omega
  have hd : 0 ≤ ks / ((2 ^ k.toNat : Nat) : Int) := Int.ediv_nonneg h1 (by omega)
  have hle : ks / ((2 ^ k.toNat : Nat) : Int) ≤ ks := Int.ediv_le_self _ h1
  rw [Int.tdiv_eq_ediv_of_nonneg h1, wrap_i64 (by omega) (by omega), Int.tmod_eq_emod_of_nonneg hd]
theorem shl1 {k : Int} (h : 0 ≤ k) (h2 : k ≤ 62) : shBin .shl .i64 1 k = some (.int .i64 ((2 ^ k.toNat : Nat) : Int)) := by
  have h62 : ∀ j : Nat, j < 63 → IntKind.i64.wrap (1 * 2 ^ min j 64) = ((2 ^ j : Nat) : Int) := by decide +kernel
  simp only [shBin]
  rw [if_neg (by omega)]
  exact congrArg (fun m : Int => some (D.int .i64 m)) (h62 k.toNat (by omega))
theorem andNot252 {x : Int} (h1 : -9223372036854775808 ≤ x) (h2 : x ≤ 9223372036854775807) : (bitsOf .andNot .i64 x 252 == 0) = (decide (0 ≤ x) && decide (x < 256) && decide (x % 4 = 0)) := by
  have hn : (BitVec.ofInt 64 x &&& ~~~(BitVec.ofInt 64 252)).toNat = (BitVec.ofInt 64 x).toNat &&& 18446744073709551363 := by
    rw [BitVec.toNat_and]; rfl
  have hx : (BitVec.ofInt 64 x).toNat = (x % 18446744073709551616).toNat := by rw [BitVec.toNat_ofInt]; rfl
  have e : bitsOf .andNot .i64 x 252 = IntKind.i64.wrap (((x % 18446744073709551616).toNat &&& 18446744073709551363 : Nat) : Int) := by
    show IntKind.i64.wrap ((BitVec.ofInt 64 x &&& ~~~(BitVec.ofInt 64 252)).toNat : Int) = _
    rw [hn, hx]
  rw [e]
  generalize hm : (x % 18446744073709551616).toNat = n
  have hlt : n < 18446744073709551616 := by omega
  have hy : n &&& 18446744073709551363 < 18446744073709551616 := Nat.lt_of_le_of_lt Nat.and_le_left hlt
  have hw : IntKind.i64.wrap ((n &&& 18446744073709551363 : Nat) : Int) = 0 ↔ n &&& 18446744073709551363 = 0 := by
    rw [IntKind.wrap_i64]; omega
  have hz : n &&& 18446744073709551363 = 0 ↔ n < 256 ∧ n % 4 = 0 := by
    constructor
    · intro h
      have h4 : n % 4 = 0 := by
        have a : n &&& 3 = n % 4 := Nat.and_two_pow_sub_one_eq_mod n 2
        have b : (n &&& 18446744073709551363) &&& 3 = n &&& 3 := by rw [Nat.and_assoc, show (18446744073709551363 &&& 3 : Nat) = 3 from by decide]
        rw [← a, ← b, h]; rfl
      have h8 : n / 256 = 0 := by
        have a : (n &&& 18446744073709551363) >>> 8 = (n >>> 8) &&& (18446744073709551363 >>> 8) := Nat.shiftRight_and_distrib
        rw [h] at a
        have b : n >>> 8 = n / 256 := Nat.shiftRight_eq_div_pow n 8
        have c : (n / 256) &&& 72057594037927935 = (n / 256) % 72057594037927936 := Nat.and_two_pow_sub_one_eq_mod _ 56
        rw [b] at a
        have d : (0 : Nat) >>> 8 = 0 := rfl
        have e : (18446744073709551363 : Nat) >>> 8 = 72057594037927935 := rfl
        rw [d, e, c] at a
        omega
      omega
    · rintro ⟨h, h'⟩; exact low_tab n h h'
  rw [Bool.eq_iff_iff]
  simp only [beq_iff_eq, Bool.and_eq_true, decide_eq_true_eq, hw, hz]
  omega
/-- The sum of kinds. -/
def ofN : List Int → Nat → Nat
  | [], x => x
  | k :: r, x => ofN r (if 1 < k ∧ k ≤ 7 then x ||| 2 ^ k.toNat else x)
theorem ofN_snoc : ∀ (l : List Int) (k : Int) (x : Nat), ofN (l ++ [k]) x = if 1 < k ∧ k ≤ 7 then ofN l x ||| 2 ^ k.toNat else ofN l x
  | [], k, x => rfl
  | y :: l, k, x => by simp only [List.cons_append, ofN]; exact ofN_snoc l k _
theorem ofN_lt : ∀ (l : List Int) (x : Nat), x < 256 → ofN l x < 256
  | [], x, h => h
  | k :: l, x, h => by
    simp only [ofN]
    refine ofN_lt l _ ?_
    split
    · exact (or_tab x h k.toNat (by omega)).2
    · exact h
theorem ofN_take {l : List Int} {i : Nat} (h : i < l.length) : ofN (l.take (i + 1)) 0 = if 1 < l[i]'h ∧ l[i]'h ≤ 7 then ofN (l.take i) 0 ||| 2 ^ (l[i]'h).toNat else ofN (l.take i) 0 := by
  rw [List.take_succ_eq_append_getElem h, ofN_snoc]
def mayF (f : Flt) : Bool := (decide (f.coll = []) || collV f.coll) && (decide (f.path.length = 0) || pathV f.path) && (decide (0 ≤ f.kinds) && decide (f.kinds < 256) && decide (f.kinds % 4 = 0))
structure OkF (f : Flt) : Prop where
  lo : -9223372036854775808 ≤ f.kinds
  hi : f.kinds ≤ 9223372036854775807

theorem fn23 : FnOk Tryz.prog 23 24 [2] (bodyOf Tryz.f23) := ⟨Tryz.f23, Tryz.func23, by kernel_rfl, by decide, by kernel_rfl, by kernel_rfl⟩
theorem s23 (l : List Int) : PSpec Tryz.prog 23 [.d (.sl 1 (l.map (D.int .i64)))] (.d (.int .i64 (ofN l 0 : Nat))) := by
 refine PSpec.bd fun hbd => ?_
 have hx : l.length ≤ 9223372036854775807 := by simpa using hbd.1.1
 refine PSpec.of fn23 (by simp) fun o nk => ?_
 refine wr ?_
 refine ua ?_
 refine u_nil ?_
 refine wr ?_
 refine ua ?_
 refine u_nil ?_
 refine WP.seq fun K3 hK3 => ?_
 refine wr ?_
 refine um ?_
 refine un th37 ?_
 refine um ?_
 refine u_nil ?_
 refine WP.block ?_
 refine WP.loopL (ι := Nat) (fun i => ⟨al [(3, .d (.int .i64 (ofN (l.take i) 0 : Nat))), (6, .d (.sl 1 (l.map (D.int .i64)))), (7, .d (.int .i64 (l.map (D.int .i64)).length)), (8, .d (.int .i64 i))], o, nk⟩) (fun i => i ≤ l.length ∧ True) (fun i => l.length - i) (fun i hA => ?_) 0 ?_ ?_
 ·
  obtain ⟨hle_i, hin_i⟩ := hA
  refine wr ?_
  refine ub ?_
  refine u_nil ?_
  refine WP.seq fun K6 hK6 => ?_
  refine wc (fun hc7 => ?_) (fun hc7 => ?_) <;> try simp only [Q0, Q1, Q2, Q3, Q4, Q5, Q6, Q7, Q8, ge_iff_le, gt_iff_lt] at hc7
  ·
   refine WP.skip ?_
   refine hK6 _ ?_
   refine WP.seq fun K8 hK8 => ?_
   refine WP.block ?_
   refine wr ?_
   first | refine u_step (o_ia_map rfl rfl th37 rfl th3 rfl (by omega) ?_) | refine u_step (o_ia_vs rfl rfl th37 rfl th3 rfl (by omega) ?_)
   refine uL th3 ?_
   refine ua ?_
   refine u_nil ?_
   refine wr ?_
   refine um ?_
   refine ub ?_
   refine um ?_
   apply gT
   · rfl
   · intro hg
     exact pm
   apply gT
   · rfl
   · intro hg; try simp only [hg, ct]; try simp only [hg, ct, Bt]
     exact pb
   refine uA ?_
   refine u_nil ?_
   refine wc (fun hc11 => ?_) (fun hc11 => ?_) <;> try simp only [Q0, Q1, Q2, Q3, Q4, Q5, Q6, Q7, Q8, ge_iff_le, gt_iff_lt] at hc11
   ·
    have hk : 1 < l[i] ∧ l[i] ≤ 7 := by simpa using hc11
    refine WP.reg tabOk rfl ?_
    refine um ?_
    refine um ?_
    refine u_step (o_bin_sh rfl rfl (shl1 (by omega) (by omega)) ?_)
    refine ub ?_
    refine ua ?_
    refine u_nil ?_
    refine hK8 _ ?_
    refine WP.reg tabOk rfl ?_
    refine ub ?_
    refine um ?_
    refine u_nil ?_
    -- back
    have hot := ofN_take (l := l) (i := i) (by omega)
    have hlt := ofN_lt (l.take i) 0 (by omega)
    refine ⟨i + 1, ⟨by omega, trivial⟩, by omega, ?_⟩
    refine Le.al ?_
    simp only [List.forall_mem_cons]
    refine ⟨?_, rfl, rfl, cnt (by omega), by simp⟩
    have hl := hc11
    first | (rw [hot, if_pos hk, ← (or_tab _ hlt l[i].toNat (by omega)).1]; rfl) | (rw [hot, if_neg (by simpa using hl)]; rfl)
   ·
    refine WP.skip ?_
    refine hK8 _ ?_
    refine WP.reg tabOk rfl ?_
    refine ub ?_
    refine um ?_
    refine u_nil ?_
    -- back
    have hot := ofN_take (l := l) (i := i) (by omega)
    have hlt := ofN_lt (l.take i) 0 (by omega)
    refine ⟨i + 1, ⟨by omega, trivial⟩, by omega, ?_⟩
    refine Le.al ?_
    simp only [List.forall_mem_cons]
    refine ⟨?_, rfl, rfl, cnt (by omega), by simp⟩
    have hl := hc11
    first | (rw [hot, if_pos hk, ← (or_tab _ hlt l[i].toNat (by omega)).1]; rfl) | (rw [hot, if_neg (by simpa using hl)]; rfl)
  ·
   refine WP.exit ?_
   refine hK3 _ ?_
   refine wr ?_
   refine um ?_
   refine ua ?_
   refine u_nil ?_
   refine WP.ret ?_
   refine ret_ok rfl ?_ (by omega) (fun _ _ => rfl)
   -- ret 1
   rw [List.take_of_length_le (by omega)]
 ·
  simp
 ·
  refine Le.al ?_
  simp only [List.forall_mem_cons]
  exact ⟨rfl, rfl, rfl, rfl, by simp⟩

theorem fn57 : FnOk Tryz.prog 57 3 [0] (bodyOf Tryz.f57) := ⟨Tryz.f57, Tryz.func57, by kernel_rfl, by decide, by kernel_rfl, by kernel_rfl⟩
theorem s57  : PSpec Tryz.prog 57 [] (.d (.int .i64 252)) := by
 refine PSpec.of fn57 (by simp) fun o nk => ?_
 refine wr ?_
 refine ua ?_
 refine u_nil ?_
 refine wr ?_
 refine u_step (o_bs rfl th37 rfl th3 rfl rfl (by decide) rfl (by decide) (by decide) ?_)
 refine u_step (o_pcall (s23 [2, 3, 4, 5, 6, 7]) rfl ?_)
 refine ua ?_
 refine u_nil ?_
 refine WP.ret ?_
 refine ret_ok rfl ?_ (by omega) (fun _ _ => rfl)
 -- ret 1
 rfl

theorem fn15 : FnOk Tryz.prog 15 28 [2] (bodyOf Tryz.f15) := ⟨Tryz.f15, Tryz.func15, by kernel_rfl, by decide, by kernel_rfl, by kernel_rfl⟩
theorem s15 (f : Flt) (ok : OkF f) : PSpec Tryz.prog 15 [.d (encF f)] (.d (.bool (mayF f))) := by
 have hn := andNot252 ok.lo ok.hi
 refine PSpec.of fn15 (by simp) fun o nk => ?_
 refine wr ?_
 refine u_step (g_box rfl fun o2 hb2 hk2 => ?_)
 refine ua ?_
 refine u_nil ?_
 refine WP.seq fun K3 hK3 => ?_
 refine WP.block ?_
 refine WP.seq fun K4 hK4 => ?_
 refine wr ?_
 refine uf th24 th9 hb2 ?_
 refine ul th9 hb2 ?_
 refine u_step (o_bin_str rfl (show _ = SV.d (.str []) from rfl) rfl ?_)
 refine um ?_
 apply gT
 · rfl
 · intro hg
   exact pf th24 th9 hb2
 apply gT
 · rfl
 · intro hg; try simp only [hg, ct]; try simp only [hg, ct, Bt]
   exact pl th9 hb2
 apply gT
 · rfl
 · intro hg; try simp only [hg, ct]; try simp only [hg, ct, Bt]
   refine o_pcall (s48 f.coll) rfl ⟨rfl, rfl, rfl⟩
 apply gT
 · rfl
 · intro hg; try simp only [hg, ct]; try simp only [hg, ct, Bt]
   exact pN
 refine uA ?_
 refine ua ?_
 refine u_nil ?_
 refine wc (fun hc6 => ?_) (fun hc6 => ?_) <;> try simp only [Q0, Q1, Q2, Q3, Q4, Q5, Q6, Q7, Q8, ge_iff_le, gt_iff_lt] at hc6
 ·
  refine WP.skip ?_
  refine hK4 _ ?_
  refine wc (fun hc7 => ?_) (fun hc7 => ?_) <;> try simp only [Q0, Q1, Q2, Q3, Q4, Q5, Q6, Q7, Q8, ge_iff_le, gt_iff_lt] at hc7
  ·
   refine wr ?_
   refine ua ?_
   refine u_nil ?_
   refine WP.ret ?_
   refine ret_ok rfl ?_ (by omega) (fun t ht => (hk2 t (by omega)))
   -- ret 1
   clear hK3 hK4
   refine congrArg D.bool ?_
   simp only [mayF, List.length_map] at *
   grind
  ·
   refine WP.skip ?_
   refine hK3 _ ?_
   refine wd ?_
   refine df th24 th3 hb2 ?_
   refine dl th3 hb2 ?_
   refine d_step (o_pcall (s57) rfl ⟨rfl, rfl, rfl⟩) ?_
   refine db ?_
   refine db ?_
   refine da ?_
   refine d_nil ?_
   refine WP.ret ?_
   refine ret_ok rfl ?_ (by omega) (fun t ht => (hk2 t (by omega)))
   -- ret 2
   clear hK3 hK4
   refine congrArg D.bool ?_
   simp only [mayF, List.length_map] at *
   grind
 ·
  refine WP.reg tabOk rfl ?_
  refine uf th24 th22 hb2 ?_
  refine ul th22 hb2 ?_
  refine un th22 ?_
  refine ub ?_
  refine um ?_
  apply gT
  · rfl
  · intro hg
    exact pf th24 th22 hb2
  apply gT
  · rfl
  · intro hg; try simp only [hg, ct]; try simp only [hg, ct, Bt]
    exact pl th22 hb2
  apply gT
  · rfl
  · intro hg; try simp only [hg, ct]; try simp only [hg, ct, Bt]
    refine o_pcall (s56 f.path) rfl ⟨rfl, rfl, rfl⟩
  apply gT
  · rfl
  · intro hg; try simp only [hg, ct]; try simp only [hg, ct, Bt]
    exact pN
  refine uA ?_
  refine ua ?_
  refine u_nil ?_
  refine hK4 _ ?_
  refine wc (fun hc10 => ?_) (fun hc10 => ?_) <;> try simp only [Q0, Q1, Q2, Q3, Q4, Q5, Q6, Q7, Q8, ge_iff_le, gt_iff_lt] at hc10
  ·
   refine wr ?_
   refine ua ?_
   refine u_nil ?_
   refine WP.ret ?_
   refine ret_ok rfl ?_ (by omega) (fun t ht => (hk2 t (by omega)))
   -- ret 3
   clear hK3 hK4
   refine congrArg D.bool ?_
   simp only [mayF, List.length_map] at *
   grind
  ·
   refine WP.skip ?_
   refine hK3 _ ?_
   refine wd ?_
   refine df th24 th3 hb2 ?_
   refine dl th3 hb2 ?_
   refine d_step (o_pcall (s57) rfl ⟨rfl, rfl, rfl⟩) ?_
   refine db ?_
   refine db ?_
   refine da ?_
   refine d_nil ?_
   refine WP.ret ?_
   refine ret_ok rfl ?_ (by omega) (fun t ht => (hk2 t (by omega)))
   -- ret 4
   clear hK3 hK4
   refine congrArg D.bool ?_
   simp only [mayF, List.length_map] at *
   grind

theorem fn16 : FnOk Tryz.prog 16 38 [2] (bodyOf Tryz.f16) := ⟨Tryz.f16, Tryz.func16, by kernel_rfl, by decide, by kernel_rfl, by kernel_rfl⟩
theorem s16 (f : Flt) : PSpec Tryz.prog 16 [.d (encF f)] (.d (.bool (mayF f))) := by
 refine PSpec.of fn16 (by simp) fun o nk => ?_
 refine wr ?_
 refine u_step (g_box rfl fun o2 hb2 hk2 => ?_)
 refine ua ?_
 refine u_nil ?_
 refine WP.seq fun K3 hK3 => ?_
 refine wr ?_
 refine uf th24 th9 hb2 ?_
 refine ul th9 hb2 ?_
 refine u_step (o_bin_str rfl (show _ = SV.d (.str []) from rfl) rfl ?_)
 refine um ?_
 apply gT
 · rfl
 · intro hg
   exact pf th24 th9 hb2
 apply gT
 · rfl
 · intro hg; try simp only [hg, ct]; try simp only [hg, ct, Bt]
   exact pl th9 hb2
 apply gT
 · rfl
 · intro hg; try simp only [hg, ct]; try simp only [hg, ct, Bt]
   refine o_pcall (s49 f.coll) rfl ⟨rfl, rfl, rfl⟩
 apply gT
 · rfl
 · intro hg; try simp only [hg, ct]; try simp only [hg, ct, Bt]
   exact pN
 refine uA ?_
 refine um ?_
 apply gF
 · rfl
 · intro hg
   exact pf th24 th22 hb2
 apply gF
 · rfl
 · intro hg; try simp only [hg, ct]; try simp only [hg, ct, Bt]
   exact pl th22 hb2
 apply gF
 · rfl
 · intro hg; try simp only [hg, ct]; try simp only [hg, ct, Bt]
   exact pn th22
 apply gF
 · rfl
 · intro hg; try simp only [hg, ct]; try simp only [hg, ct, Bt]
   exact pb
 apply gF
 · rfl
 · intro hg; try simp only [hg, ct]; try simp only [hg, ct, Bt]
   exact pm
 apply u_guard
 · exact GC.ct _ _
 · intro hg
   exact pf th24 th22 hb2
 apply u_guard
 · exact GC.ct _ _
 · intro hg; try simp only [hg, ct]; try simp only [hg, ct, Bt]
   exact pl th22 hb2
 apply u_guard
 · exact GC.ct _ _
 · intro hg; try simp only [hg, ct]; try simp only [hg, ct, Bt]
   refine o_pcall (s58 f.path) rfl ⟨rfl, rfl, rfl⟩
 apply u_guard
 · exact GC.ct _ _
 · intro hg; try simp only [hg, ct]; try simp only [hg, ct, Bt]
   exact pN
 apply gF
 · rfl
 · intro hg; try simp only [hg, ct]; try simp only [hg, ct, Bt]
   exact pA
 refine uO ?_
 refine u_nil ?_
 refine wc (fun hc5 => ?_) (fun hc5 => ?_) <;> try simp only [Q0, Q1, Q2, Q3, Q4, Q5, Q6, Q7, Q8, ge_iff_le, gt_iff_lt] at hc5
 ·
  refine wr ?_
  refine ua ?_
  refine u_nil ?_
  refine WP.ret ?_
  refine ret_ok rfl ?_ (by omega) (fun t ht => (hk2 t (by omega)))
  -- ret 1
  clear hK3
  refine congrArg D.bool ?_
  have ht : 0 ≤ f.kinds → f.kinds.tmod 4 = f.kinds % 4 := fun h => Int.tmod_eq_emod_of_nonneg h
  simp only [mayF, List.length_map] at *
  grind
 ·
  refine WP.skip ?_
  refine hK3 _ ?_
  refine wr ?_
  refine uf th24 th3 hb2 ?_
  refine ul th3 hb2 ?_
  refine ub ?_
  refine um ?_
  apply gT
  · rfl
  · intro hg
    exact pf th24 th3 hb2
  apply gT
  · rfl
  · intro hg; try simp only [hg, ct]; try simp only [hg, ct, Bt]
    exact pl th3 hb2
  apply gT
  · rfl
  · intro hg; try simp only [hg, ct]; try simp only [hg, ct, Bt]
    exact pb
  refine uA ?_
  refine um ?_
  apply gT
  · rfl
  · intro hg
    exact pf th24 th3 hb2
  apply gT
  · rfl
  · intro hg; try simp only [hg, ct]; try simp only [hg, ct, Bt]
    exact pl th3 hb2
  apply gT
  · rfl
  · intro hg; try simp only [hg, ct]; try simp only [hg, ct, Bt]
    exact pb
  apply gT
  · rfl
  · intro hg; try simp only [hg, ct]; try simp only [hg, ct, Bt]
    exact pb
  refine uA ?_
  refine ua ?_
  refine u_nil ?_
  refine WP.ret ?_
  refine ret_ok rfl ?_ (by omega) (fun t ht => (hk2 t (by omega)))
  -- ret 2
  clear hK3
  refine congrArg D.bool ?_
  have ht : 0 ≤ f.kinds → f.kinds.tmod 4 = f.kinds % 4 := fun h => Int.tmod_eq_emod_of_nonneg h
  simp only [mayF, List.length_map] at *
  grind

theorem fn59 : FnOk Tryz.prog 59 11 [4] (bodyOf Tryz.f59) := ⟨Tryz.f59, Tryz.func59, by kernel_rfl, by decide, by kernel_rfl, by kernel_rfl⟩
theorem s59 (f : Flt) (e : Etr) (okf : OkF f) (ok : OkE e) : PSpec Tryz.prog 59 [.d (encF f), .d (encE e)] (.d (.bool (mayF f && mayE e))) := by
 refine PSpec.of fn59 (by simp) fun o nk => ?_
 refine wr ?_
 refine u_step (g_box rfl fun o2 hb2 hk2 => ?_)
 refine u_step (g_box rfl fun o3 hb3 hk3 => ?_)
 have hb2_3 := (hk3 _ (by omega)).trans hb2
 refine ua ?_
 refine u_nil ?_
 refine wr ?_
 refine ug th24 hb2_3 ?_
 refine u_step (o_pcall (s15 f okf) rfl ?_)
 refine um ?_
 apply gT
 · rfl
 · intro hg
   exact pg th30 hb3
 apply gT
 · rfl
 · intro hg; try simp only [hg, ct]; try simp only [hg, ct, Bt]
   refine o_pcall (s45 e ok) rfl ⟨rfl, rfl, rfl⟩
 refine uA ?_
 refine ua ?_
 refine u_nil ?_
 refine WP.ret ?_
 refine ret_ok rfl ?_ (by omega) (fun t ht => (hk3 t (by omega)).trans ((hk2 t (by omega))))
 -- ret 1
 rfl

end Go.Proofs.YtpkcbdhjnnnkbaaGreat.Abs

set_option linter.unusedVariables false
set_option linter.unusedSimpArgs false
set_option maxRecDepth 10000
namespace Go.Proofs.YtpkcbdhjnnnkbaaGreat.Abs
open Go
def ofCollV (f : Flt) (e : Etr) : Bool := decide (f.coll = []) || decide (e.coll = f.coll) || (decide (e.kind = 7) && decide (e.to = f.coll))
def atPathV (f : Flt) (e : Etr) : Bool := if f.path.length = 0 then true else if e.kind = 2 then (getP e.doc f.path).isSome else if e.kind = 3 then touchD e.deltas f.path else true
noncomputable def matchV (f : Flt) (e : Etr) : Bool := mayF f && mayE e && !decide (e.kind = 1) && (decide (f.kinds = 0) || kindIn f.kinds e.kind) && ofCollV f e && atPathV f e
noncomputable def endsV (f : Flt) (e : Etr) : Bool := mayF f && mayE e && !decide (f.coll = []) && (decide (e.kind = 6) || decide (e.kind = 7)) && decide (e.coll = f.coll)
theorem mayF_kinds {f : Flt} (h : mayF f = true) : 0 ≤ f.kinds ∧ f.kinds < 256 := by
  simp only [mayF, Bool.and_eq_true, decide_eq_true_eq] at h
  exact h.2.1
theorem mayE_kind {e : Etr} (h : mayE e = true) : 1 ≤ e.kind ∧ e.kind ≤ 7 := by
  simp only [mayE, Bool.and_eq_true, decide_eq_true_eq] at h
  grind
theorem mayE_doc {e : Etr} (h : mayE e = true) (hk : e.kind = 2) : e.doc.kind = 7 ∧ checkV e.doc = 0 := by
  simp only [mayE, valuesE, Bool.and_eq_true] at h
  have h1 := h.2.1.2
  rw [hk] at h1
  simp only [hasD, mayDocV] at h1
  simp at h1
  exact ⟨h1.1, h1.2.1⟩
theorem mayF_path {f : Flt} (h : mayF f = true) (hp : ¬ f.path.length = 0) : pathV f.path = true := by
  simp only [mayF, Bool.and_eq_true, Bool.or_eq_true, decide_eq_true_eq] at h
  exact h.1.2.resolve_left hp
theorem getP_doc {f : Flt} {e : Etr} (hf : mayF f = true) (he : mayE e = true) (hk : e.kind = 2) (hp : ¬ f.path.length = 0) : getP e.doc f.path = getV e.doc f.path := by
  obtain ⟨h1, h2⟩ := mayE_doc he hk
  unfold getP
  rw [if_pos ⟨h1, check_may h2, mayF_path hf hp⟩]
theorem match_at {f : Flt} {e : Etr} (hmf : mayF f = true) (hme : mayE e = true) (hk1 : ¬ e.kind = 1) (hkn : (decide (f.kinds = 0) || kindIn f.kinds e.kind) = true) (hco : ofCollV f e = true) : matchV f e = atPathV f e := by
  simp only [matchV, hmf, hme, hkn, hco, hk1, decide_false, Bool.not_false, Bool.and_true, Bool.true_and]
theorem o_ia_G {P : Program} {Θ : Tab} {K : SV → (Nat → Option AO) → Nat → Prop} {sl : Nat → SV} {o : Nat → Option AO} {nk : Nat} {x ix : Operand} {t e : Nat} {α : Type} {i j : TI} {z : Nat} {xs : List α} {g : α → D} {k : IntKind} {m : Nat} (d0 : α) (hx : ev sl x = .d (.sl z (xs.map g))) (hy : ev sl ix = .d (.int k (m : Int))) (hi : Θ t = some i) (hk : i.k = .slice e) (hj : Θ e = some j) (hz : z = j.sz) (hlt : m < xs.length) (h : K (.el (g (xs.getD m d0))) o nk) : vOp P Θ (.indexAddr t x ix) ⟨sl, o, nk⟩ K := o_ia_mapG d0 hx hy hi hk hj hz hlt h
theorem ent_bd {e : Etr} (h : D.bd (encE e)) : e.deltas.length ≤ 9223372036854775807 := by
  simp only [encE, D.bd, valCells, List.cons_append, List.nil_append, D.bds, List.length_map] at h
  exact h.2.2.2.2.2.2.2.2.2.2.2.2.2.2.1.1
instance : Inhabited Dlt := ⟨⟨0, [], zeroV, 0⟩⟩

theorem fn60 : FnOk Tryz.prog 60 27 [4] (bodyOf Tryz.f60) := ⟨Tryz.f60, Tryz.func60, by kernel_rfl, by decide, by kernel_rfl, by kernel_rfl⟩
theorem s60 (f : Flt) (e : Etr) : PSpec Tryz.prog 60 [.d (encF f), .d (encE e)] (.d (.bool (ofCollV f e))) := by
 refine PSpec.of fn60 (by simp) fun o nk => ?_
 refine wr ?_
 refine u_step (g_box rfl fun o2 hb2 hk2 => ?_)
 refine u_step (g_box rfl fun o3 hb3 hk3 => ?_)
 have hb2_3 := (hk3 _ (by omega)).trans hb2
 refine ua ?_
 refine u_nil ?_
 refine wr ?_
 refine uf th24 th9 hb2_3 ?_
 refine ul th9 hb2_3 ?_
 refine u_step (o_bin_str rfl (show _ = SV.d (.str []) from rfl) rfl ?_)
 refine um ?_
 apply gF
 · rfl
 · intro hg
   exact pf th30 th9 hb3
 apply gF
 · rfl
 · intro hg; try simp only [hg, ct]; try simp only [hg, ct, Bt]
   exact pl th9 hb3
 apply gF
 · rfl
 · intro hg
   exact pf th24 th9 hb2_3
 apply gF
 · rfl
 · intro hg; try simp only [hg, ct]; try simp only [hg, ct, Bt]
   exact pl th9 hb2_3
 apply gF
 · rfl
 · intro hg; try simp only [hg, ct]; try simp only [hg, ct, Bt]
   exact ps
 refine uO ?_
 refine um ?_
 apply gF
 · rfl
 · intro hg
   exact pf th30 th3 hb3
 apply gF
 · rfl
 · intro hg; try simp only [hg, ct]; try simp only [hg, ct, Bt]
   exact pl th3 hb3
 apply gF
 · rfl
 · intro hg; try simp only [hg, ct]; try simp only [hg, ct, Bt]
   exact pb
 apply gF
 · rfl
 · intro hg; try simp only [hg, ct]; try simp only [hg, ct, Bt]
   exact pm
 apply u_guard
 · exact GC.ct _ _
 · intro hg
   exact pf th30 th9 hb3
 apply u_guard
 · exact GC.ct _ _
 · intro hg; try simp only [hg, ct]; try simp only [hg, ct, Bt]
   exact pl th9 hb3
 apply u_guard
 · exact GC.ct _ _
 · intro hg
   exact pf th24 th9 hb2_3
 apply u_guard
 · exact GC.ct _ _
 · intro hg; try simp only [hg, ct]; try simp only [hg, ct, Bt]
   exact pl th9 hb2_3
 apply u_guard
 · exact GC.ct _ _
 · intro hg; try simp only [hg, ct]; try simp only [hg, ct, Bt]
   exact ps
 apply gF
 · rfl
 · intro hg; try simp only [hg, ct]; try simp only [hg, ct, Bt]
   exact pA
 refine uO ?_
 refine ua ?_
 refine u_nil ?_
 refine WP.ret ?_
 refine ret_ok rfl ?_ (by omega) (fun t ht => (hk3 t (by omega)).trans ((hk2 t (by omega))))
 -- ret 1
 refine congrArg D.bool ?_
 simp only [ofCollV]
 rw [Bool.eq_iff_iff]
 simp only [Bool.or_eq_true, Bool.and_eq_true, decide_eq_true_eq, beq_iff_eq]

theorem fn61 : FnOk Tryz.prog 61 34 [4] (bodyOf Tryz.f61) := ⟨Tryz.f61, Tryz.func61, by kernel_rfl, by decide, by kernel_rfl, by kernel_rfl⟩
theorem s61 (f : Flt) (e : Etr) (okf : OkF f) (ok : OkE e) : PSpec Tryz.prog 61 [.d (encF f), .d (encE e)] (.d (.bool (atPathV f e))) := by
 refine PSpec.of fn61 (by simp) fun o nk => ?_
 refine wr ?_
 refine u_step (g_box rfl fun o2 hb2 hk2 => ?_)
 refine u_step (g_box rfl fun o3 hb3 hk3 => ?_)
 have hb2_3 := (hk3 _ (by omega)).trans hb2
 refine ua ?_
 refine u_nil ?_
 refine WP.seq fun K4 hK4 => ?_
 refine WP.block ?_
 refine wr ?_
 refine uf th24 th22 hb2_3 ?_
 refine ul th22 hb2_3 ?_
 refine un th22 ?_
 refine ub ?_
 refine ua ?_
 refine u_nil ?_
 refine wc (fun hc6 => ?_) (fun hc6 => ?_) <;> try simp only [Q0, Q1, Q2, Q3, Q4, Q5, Q6, Q7, Q8, ge_iff_le, gt_iff_lt] at hc6
 ·
  refine wr ?_
  refine ua ?_
  refine u_nil ?_
  refine WP.ret ?_
  refine ret_ok rfl ?_ (by omega) (fun t ht => (hk3 t (by omega)).trans ((hk2 t (by omega))))
  -- ret 1
  clear hK4
  refine congrArg D.bool ?_
  simp only [atPathV, List.length_map] at *
  grind
 ·
  refine wr ?_
  refine uf th30 th3 hb3 ?_
  refine ul th3 hb3 ?_
  refine ub ?_
  refine ua ?_
  refine u_nil ?_
  refine wc (fun hc9 => ?_) (fun hc9 => ?_) <;> try simp only [Q0, Q1, Q2, Q3, Q4, Q5, Q6, Q7, Q8, ge_iff_le, gt_iff_lt] at hc9
  ·
   refine wr ?_
   refine uf th30 th27 hb3 ?_
   refine ug th27 hb3 ?_
   refine uf th24 th22 hb2_3 ?_
   refine ul th22 hb2_3 ?_
   refine u_step (o_pcall (pv2 (v := e.doc) (s114 e.doc f.path ok.sd)) rfl ?_)
   refine u_step (o_moveV (v := .tup _) rfl ?_)
   refine ue ?_
   refine ue ?_
   refine u_step (g_alloc th27 rfl fun o11 hb11 hk11 => ?_)
   have hb2_11 := (hk11 _ (by omega)).trans hb2_3
   have hb3_11 := (hk11 _ (by omega)).trans hb3
   refine u_step0 (g_sta rfl (congrArg SV.d (encV_eq _)) th27 rfl hb11 (by simp [valCells]) fun o12 hb12 hk12 => ?_)
   have hb2_12 := (hk12 _ (by omega)).trans hb2_11
   have hb3_12 := (hk12 _ (by omega)).trans hb3_11
   refine ua ?_
   refine u_nil ?_
   refine wr ?_
   refine um ?_
   refine ua ?_
   refine u_nil ?_
   refine WP.ret ?_
   refine ret_ok rfl ?_ (by omega) (fun t ht => (hk12 t (by omega)).trans ((hk11 t (by omega)).trans ((hk3 t (by omega)).trans ((hk2 t (by omega))))))
   -- ret 2
   clear hK4
   refine congrArg D.bool ?_
   simp only [atPathV, List.length_map] at *
   grind
  ·
   refine wr ?_
   refine uf th30 th3 hb3 ?_
   refine ul th3 hb3 ?_
   refine ub ?_
   refine ua ?_
   refine u_nil ?_
   refine wc (fun hc15 => ?_) (fun hc15 => ?_) <;> try simp only [Q0, Q1, Q2, Q3, Q4, Q5, Q6, Q7, Q8, ge_iff_le, gt_iff_lt] at hc15
   ·
    refine wr ?_
    refine uf th30 th28 hb3 ?_
    refine ul th28 hb3 ?_
    refine uf th24 th22 hb2_3 ?_
    refine ul th22 hb2_3 ?_
    refine u_step (o_pcall (s74 e.deltas f.path) rfl ?_)
    refine ua ?_
    refine u_nil ?_
    refine WP.ret ?_
    refine ret_ok rfl ?_ (by omega) (fun t ht => (hk3 t (by omega)).trans ((hk2 t (by omega))))
    -- ret 3
    clear hK4
    refine congrArg D.bool ?_
    simp only [atPathV, List.length_map] at *
    grind
   ·
    refine WP.skip ?_
    refine hK4 _ ?_
    refine wr ?_
    refine ua ?_
    refine u_nil ?_
    refine WP.ret ?_
    refine ret_ok rfl ?_ (by omega) (fun t ht => (hk3 t (by omega)).trans ((hk2 t (by omega))))
    -- ret 4
    clear hK4
    refine congrArg D.bool ?_
    simp only [atPathV, List.length_map] at *
    grind

theorem fn17 : FnOk Tryz.prog 17 36 [4] (bodyOf Tryz.f17) := ⟨Tryz.f17, Tryz.func17, by kernel_rfl, by decide, by kernel_rfl, by kernel_rfl⟩
theorem s17 (f : Flt) (e : Etr) (okf : OkF f) (ok : OkE e) : PSpec Tryz.prog 17 [.d (encF f), .d (encE e)] (.d (.bool (matchV f e))) := by
 refine PSpec.of fn17 (by simp) fun o nk => ?_
 refine wr ?_
 refine u_step (g_box rfl fun o2 hb2 hk2 => ?_)
 refine u_step (g_box rfl fun o3 hb3 hk3 => ?_)
 have hb2_3 := (hk3 _ (by omega)).trans hb2
 refine ua ?_
 refine u_nil ?_
 refine WP.seq fun K4 hK4 => ?_
 refine wd ?_
 refine dg th24 hb2_3 ?_
 refine dg th30 hb3 ?_
 refine d_step (o_pcall (s59 f e okf ok) rfl ⟨rfl, rfl, rfl⟩) ?_
 refine dN ?_
 refine dm ?_
 apply d_guard
 · exact GC.f _
 · intro hg
   exact pf th30 th3 hb3
 apply d_guard
 · exact GC.f _
 · intro hg; try simp only [hg, ct]; try simp only [hg, ct, Bt]
   exact pl th3 hb3
 apply d_guard
 · exact GC.f _
 · intro hg; try simp only [hg, ct]; try simp only [hg, ct, Bt]
   exact pb
 refine dO ?_
 refine dm ?_
 apply d_guard
 · exact GC.f _
 · intro hg
   exact pf th24 th3 hb2_3
 apply d_guard
 · exact GC.f _
 · intro hg; try simp only [hg, ct]; try simp only [hg, ct, Bt]
   exact pl th3 hb2_3
 apply d_guard
 · exact GC.f _
 · intro hg; try simp only [hg, ct]; try simp only [hg, ct, Bt]
   exact pb
 apply d_guard
 · exact GC.f _
 · intro hg; try simp only [hg, ct]; try simp only [hg, ct, Bt]
   exact pm
 apply d_guard
 · exact GC.ct _ _
 · intro hg
   exact pf th24 th3 hb2_3
 apply d_guard
 · exact GC.ct _ _
 · intro hg; try simp only [hg, ct]; try simp only [hg, ct, Bt]
   exact pl th3 hb2_3
 apply d_guard
 · exact GC.ct _ _
 · intro hg
   exact pf th30 th3 hb3
 apply d_guard
 · exact GC.ct _ _
 · intro hg; try simp only [hg, ct]; try simp only [hg, ct, Bt]
   exact pl th3 hb3
 apply d_guard
 · exact GC.ct _ _
 · intro hg; try simp only [hg, ct]; try simp only [hg, ct, Bt]
   have hg2 := hg; try simp only [Q0, Q1, Q2, Q3, Q4, Q5, Q6, Q9, Qa, Qb, Qc, Qd] at hg2
   refine o_bin_sh rfl rfl (shl1 (by have hke := hg2; (have hme : mayE e = true := by simp_all); have := mayE_kind hme; omega) (by have hke := hg2; (have hme : mayE e = true := by simp_all); have := mayE_kind hme; omega)) ⟨rfl, rfl, rfl⟩
 apply d_guard
 · exact GC.ct _ _
 · intro hg; try simp only [hg, ct]; try simp only [hg, ct, Bt]
   exact pb
 apply d_guard
 · exact GC.ct _ _
 · intro hg; try simp only [hg, ct]; try simp only [hg, ct, Bt]
   exact pb
 apply d_guard
 · exact GC.f _
 · intro hg; try simp only [hg, ct]; try simp only [hg, ct, Bt]
   exact pA
 refine dO ?_
 refine d_nil ?_
 refine wc (fun hc6 => ?_) (fun hc6 => ?_) <;> try simp only [Q0, Q1, Q2, Q3, Q4, Q5, Q6, Q7, Q8, ge_iff_le, gt_iff_lt] at hc6
 ·
  refine wr ?_
  refine ua ?_
  refine u_nil ?_
  refine WP.ret ?_
  refine ret_ok rfl ?_ (by omega) (fun t ht => (hk3 t (by omega)).trans ((hk2 t (by omega))))
  -- ret 1
  clear hK4
  refine congrArg D.bool ?_
  have ha : mayF f = true → mayE e = true → (bitsOf .and .i64 f.kinds ((2 ^ e.kind.toNat : Nat) : Int) == 0) = !kindIn f.kinds e.kind := fun h1 h2 => by have q1 := mayF_kinds h1; have q2 := mayE_kind h2; exact and_kind q1.1 q1.2 (by omega) (by omega)
  simp only [matchV] at *
  grind
 ·
  refine WP.skip ?_
  refine hK4 _ ?_
  refine wr ?_
  refine ug th24 hb2_3 ?_
  refine ug th30 hb3 ?_
  refine u_step (o_pcall (s60 f e) rfl ?_)
  refine um ?_
  apply gT
  · rfl
  · intro hg
    exact pg th24 hb2_3
  apply gT
  · rfl
  · intro hg
    exact pg th30 hb3
  apply gT
  · rfl
  · intro hg; try simp only [hg, ct]; try simp only [hg, ct, Bt]
    refine o_pcall (s61 f e okf ok) rfl ⟨rfl, rfl, rfl⟩
  refine uA ?_
  refine ua ?_
  refine u_nil ?_
  refine WP.ret ?_
  refine ret_ok rfl ?_ (by omega) (fun t ht => (hk3 t (by omega)).trans ((hk2 t (by omega))))
  -- ret 2
  clear hK4
  refine congrArg D.bool ?_
  have ha : mayF f = true → mayE e = true → (bitsOf .and .i64 f.kinds ((2 ^ e.kind.toNat : Nat) : Int) == 0) = !kindIn f.kinds e.kind := fun h1 h2 => by have q1 := mayF_kinds h1; have q2 := mayE_kind h2; exact and_kind q1.1 q1.2 (by omega) (by omega)
  simp only [matchV] at *
  grind

theorem fn19 : FnOk Tryz.prog 19 32 [4] (bodyOf Tryz.f19) := ⟨Tryz.f19, Tryz.func19, by kernel_rfl, by decide, by kernel_rfl, by kernel_rfl⟩
theorem s19 (f : Flt) (e : Etr) (okf : OkF f) (ok : OkE e) : PSpec Tryz.prog 19 [.d (encF f), .d (encE e)] (.d (.bool (endsV f e))) := by
 refine PSpec.of fn19 (by simp) fun o nk => ?_
 refine wr ?_
 refine u_step (g_box rfl fun o2 hb2 hk2 => ?_)
 refine u_step (g_box rfl fun o3 hb3 hk3 => ?_)
 have hb2_3 := (hk3 _ (by omega)).trans hb2
 refine ua ?_
 refine u_nil ?_
 refine wr ?_
 refine uf th30 th3 hb3 ?_
 refine ul th3 hb3 ?_
 refine ub ?_
 refine um ?_
 apply gF
 · rfl
 · intro hg
   exact pf th30 th3 hb3
 apply gF
 · rfl
 · intro hg; try simp only [hg, ct]; try simp only [hg, ct, Bt]
   exact pl th3 hb3
 apply gF
 · rfl
 · intro hg; try simp only [hg, ct]; try simp only [hg, ct, Bt]
   exact pb
 refine uO ?_
 refine ua ?_
 refine u_nil ?_
 refine wr ?_
 refine ug th24 hb2_3 ?_
 refine ug th30 hb3 ?_
 refine u_step (o_pcall (s59 f e okf ok) rfl ?_)
 refine um ?_
 apply gT
 · rfl
 · intro hg
   exact pf th24 th9 hb2_3
 apply gT
 · rfl
 · intro hg; try simp only [hg, ct]; try simp only [hg, ct, Bt]
   exact pl th9 hb2_3
 apply gT
 · rfl
 · intro hg; try simp only [hg, ct]; try simp only [hg, ct, Bt]
   refine o_bin_str rfl (show _ = SV.d (.str []) from rfl) rfl ⟨rfl, rfl, rfl⟩
 refine uA ?_
 refine um ?_
 apply gT
 · rfl
 · intro hg
   exact pm
 refine uA ?_
 refine um ?_
 apply gT
 · rfl
 · intro hg
   exact pf th30 th9 hb3
 apply gT
 · rfl
 · intro hg; try simp only [hg, ct]; try simp only [hg, ct, Bt]
   exact pl th9 hb3
 apply gT
 · rfl
 · intro hg
   exact pf th24 th9 hb2_3
 apply gT
 · rfl
 · intro hg; try simp only [hg, ct]; try simp only [hg, ct, Bt]
   exact pl th9 hb2_3
 apply gT
 · rfl
 · intro hg; try simp only [hg, ct]; try simp only [hg, ct, Bt]
   exact ps
 refine uA ?_
 refine ua ?_
 refine u_nil ?_
 refine WP.ret ?_
 refine ret_ok rfl ?_ (by omega) (fun t ht => (hk3 t (by omega)).trans ((hk2 t (by omega))))
 -- ret 1
 skip
 refine congrArg D.bool ?_
 simp only [endsV] at *
 grind

theorem fn20 : FnOk Tryz.prog 20 33 [4] (bodyOf Tryz.f20) := ⟨Tryz.f20, Tryz.func20, by kernel_rfl, by decide, by kernel_rfl, by kernel_rfl⟩
theorem s20 (f : Flt) (e : Etr) (ok : OkE e) : PSpec Tryz.prog 20 [.d (encF f), .d (encE e)] (.d (.bool (endsV f e))) := by
 refine PSpec.of fn20 (by simp) fun o nk => ?_
 refine wr ?_
 refine u_step (g_box rfl fun o2 hb2 hk2 => ?_)
 refine u_step (g_box rfl fun o3 hb3 hk3 => ?_)
 have hb2_3 := (hk3 _ (by omega)).trans hb2
 refine ua ?_
 refine u_nil ?_
 refine wr ?_
 refine ug th24 hb2_3 ?_
 refine u_step (o_pcall (s16 f) rfl ?_)
 refine um ?_
 apply gT
 · rfl
 · intro hg
   exact pg th30 hb3
 apply gT
 · rfl
 · intro hg; try simp only [hg, ct]; try simp only [hg, ct, Bt]
   refine o_pcall (s24 e ok) rfl ⟨rfl, rfl, rfl⟩
 refine uA ?_
 refine um ?_
 apply gT
 · rfl
 · intro hg
   exact pf th24 th9 hb2_3
 apply gT
 · rfl
 · intro hg; try simp only [hg, ct]; try simp only [hg, ct, Bt]
   exact pl th9 hb2_3
 apply gT
 · rfl
 · intro hg; try simp only [hg, ct]; try simp only [hg, ct, Bt]
   refine o_bin_str rfl (show _ = SV.d (.str []) from rfl) rfl ⟨rfl, rfl, rfl⟩
 refine uA ?_
 refine um ?_
 apply gT
 · rfl
 · intro hg
   exact pf th24 th9 hb2_3
 apply gT
 · rfl
 · intro hg; try simp only [hg, ct]; try simp only [hg, ct, Bt]
   exact pl th9 hb2_3
 apply gT
 · rfl
 · intro hg
   exact pf th30 th9 hb3
 apply gT
 · rfl
 · intro hg; try simp only [hg, ct]; try simp only [hg, ct, Bt]
   exact pl th9 hb3
 apply gT
 · rfl
 · intro hg; try simp only [hg, ct]; try simp only [hg, ct, Bt]
   exact ps
 refine uA ?_
 refine um ?_
 apply gT
 · rfl
 · intro hg
   exact pf th30 th3 hb3
 apply gT
 · rfl
 · intro hg; try simp only [hg, ct]; try simp only [hg, ct, Bt]
   exact pl th3 hb3
 apply gT
 · rfl
 · intro hg; try simp only [hg, ct]; try simp only [hg, ct, Bt]
   exact pb
 apply gT
 · rfl
 · intro hg; try simp only [hg, ct]; try simp only [hg, ct, Bt]
   exact pm
 apply u_guard
 · exact GC.cf _ _
 · intro hg
   exact pf th30 th3 hb3
 apply u_guard
 · exact GC.cf _ _
 · intro hg; try simp only [hg, ct]; try simp only [hg, ct, Bt]
   exact pl th3 hb3
 apply u_guard
 · exact GC.cf _ _
 · intro hg; try simp only [hg, ct]; try simp only [hg, ct, Bt]
   exact pb
 apply gT
 · rfl
 · intro hg; try simp only [hg, ct]; try simp only [hg, ct, Bt]
   exact pO
 refine uA ?_
 refine ua ?_
 refine u_nil ?_
 refine WP.ret ?_
 refine ret_ok rfl ?_ (by omega) (fun t ht => (hk3 t (by omega)).trans ((hk2 t (by omega))))
 -- ret 1
 skip
 refine congrArg D.bool ?_
 have hc : decide (f.coll = e.coll) = decide (e.coll = f.coll) := by rw [Bool.eq_iff_iff]; simp only [decide_eq_true_eq]; exact eq_comm
 simp only [endsV] at *
 grind

theorem fn18 : FnOk Tryz.prog 18 103 [4] (bodyOf Tryz.f18) := ⟨Tryz.f18, Tryz.func18, by kernel_rfl, by decide, by kernel_rfl, by kernel_rfl⟩
theorem s18 (f : Flt) (e : Etr) (ok : OkE e) : PSpec Tryz.prog 18 [.d (encF f), .d (encE e)] (.d (.bool (matchV f e))) := by
 refine PSpec.bd fun hbd => ?_
 have hx : e.deltas.length ≤ 9223372036854775807 := ent_bd hbd.2.1
 refine PSpec.of fn18 (by simp) fun o nk => ?_
 refine wr ?_
 refine u_step (g_box rfl fun o2 hb2 hk2 => ?_)
 refine u_step (g_box rfl fun o3 hb3 hk3 => ?_)
 have hb2_3 := (hk3 _ (by omega)).trans hb2
 refine ua ?_
 refine u_nil ?_
 refine WP.seq fun K4 hK4 => ?_
 refine wr ?_
 refine ug th24 hb2_3 ?_
 refine u_step (o_pcall (s16 f) rfl ?_)
 refine uN ?_
 refine um ?_
 apply gF
 · rfl
 · intro hg
   exact pg th30 hb3
 apply gF
 · rfl
 · intro hg; try simp only [hg, ct]; try simp only [hg, ct, Bt]
   refine o_pcall (s24 e ok) rfl ⟨rfl, rfl, rfl⟩
 apply gF
 · rfl
 · intro hg; try simp only [hg, ct]; try simp only [hg, ct, Bt]
   exact pN
 refine uO ?_
 refine um ?_
 apply gF
 · rfl
 · intro hg
   exact pf th30 th3 hb3
 apply gF
 · rfl
 · intro hg; try simp only [hg, ct]; try simp only [hg, ct, Bt]
   exact pl th3 hb3
 apply gF
 · rfl
 · intro hg; try simp only [hg, ct]; try simp only [hg, ct, Bt]
   exact pb
 refine uO ?_
 refine u_nil ?_
 refine wc (fun hc6 => ?_) (fun hc6 => ?_) <;> try simp only [Q0, Q1, Q2, Q3, Q4, Q5, Q6, Q7, Q8, ge_iff_le, gt_iff_lt] at hc6
 ·
  refine wr ?_
  refine ua ?_
  refine u_nil ?_
  refine WP.ret ?_
  refine ret_ok rfl ?_ (by omega) (fun t ht => (hk3 t (by omega)).trans ((hk2 t (by omega))))
  -- ret 1
  clear hK4
  refine congrArg D.bool ?_
  have hl := hc6
  simp only [matchV]
  grind
 ·
  have hq3 : mayF f = true ∧ mayE e = true ∧ ¬ e.kind = 1 := by simpa [and_assoc] using hc6
  obtain ⟨hmf, hme, hk1⟩ := hq3
  have hke := mayE_kind hme
  have hks := mayF_kinds hmf
  refine WP.skip ?_
  refine hK4 _ ?_
  refine WP.seq fun K8 hK8 => ?_
  refine wd ?_
  refine df th24 th3 hb2_3 ?_
  refine dl th3 hb2_3 ?_
  refine db ?_
  refine dm ?_
  apply d_guard
  · exact GC.t _
  · intro hg
    exact pf th24 th3 hb2_3
  apply d_guard
  · exact GC.t _
  · intro hg; try simp only [hg, ct]; try simp only [hg, ct, Bt]
    exact pl th3 hb2_3
  apply d_guard
  · exact GC.t _
  · intro hg
    exact pf th30 th3 hb3
  apply d_guard
  · exact GC.t _
  · intro hg; try simp only [hg, ct]; try simp only [hg, ct, Bt]
    exact pl th3 hb3
  apply d_guard
  · exact GC.t _
  · intro hg; try simp only [hg, ct]; try simp only [hg, ct, Bt]
    have hg2 := hg; try simp only [Q0, Q1, Q2, Q3, Q4, Q5, Q6, Q9, Qa, Qb, Qc, Qd] at hg2
    refine o_bin_sh rfl rfl (shl1 (by omega) (by omega)) ⟨rfl, rfl, rfl⟩
  apply d_guard
  · exact GC.t _
  · intro hg; try simp only [hg, ct]; try simp only [hg, ct, Bt]
    have hg2 := hg; try simp only [Q0, Q1, Q2, Q3, Q4, Q5, Q6, Q9, Qa, Qb, Qc, Qd] at hg2
    refine o_bin_int rfl rfl (by decide) (by show (if _ then _ else _) = _; rw [if_neg (by have := Nat.two_pow_pos e.kind.toNat; omega)]) ⟨rfl, rfl, rfl⟩
  apply d_guard
  · exact GC.t _
  · intro hg; try simp only [hg, ct]; try simp only [hg, ct, Bt]
    exact pb
  apply d_guard
  · exact GC.t _
  · intro hg; try simp only [hg, ct]; try simp only [hg, ct, Bt]
    exact pb
  refine dA ?_
  refine d_nil ?_
  refine wc (fun hc10 => ?_) (fun hc10 => ?_) <;> try simp only [Q0, Q1, Q2, Q3, Q4, Q5, Q6, Q7, Q8, ge_iff_le, gt_iff_lt] at hc10
  ·
   refine wr ?_
   refine ua ?_
   refine u_nil ?_
   refine WP.ret ?_
   refine ret_ok rfl ?_ (by omega) (fun t ht => (hk3 t (by omega)).trans ((hk2 t (by omega))))
   -- ret 2
   clear hK4 hK8
   refine congrArg D.bool ?_
   have hl := hc10
   rw [quo_kind hks.1 hks.2] at hl
   simp only [matchV, kindIn]
   grind
  ·
   have hkn : (decide (f.kinds = 0) || kindIn f.kinds e.kind) = true := by
     have hl := hc10
     rw [quo_kind hks.1 hks.2] at hl
     simp only [kindIn]
     grind
   refine WP.skip ?_
   refine hK8 _ ?_
   refine WP.seq fun K12 hK12 => ?_
   refine wr ?_
   refine uf th24 th9 hb2_3 ?_
   refine ul th9 hb2_3 ?_
   refine u_step (o_bin_str rfl (show _ = SV.d (.str []) from rfl) rfl ?_)
   refine um ?_
   apply gT
   · rfl
   · intro hg
     exact pf th30 th9 hb3
   apply gT
   · rfl
   · intro hg; try simp only [hg, ct]; try simp only [hg, ct, Bt]
     exact pl th9 hb3
   apply gT
   · rfl
   · intro hg
     exact pf th24 th9 hb2_3
   apply gT
   · rfl
   · intro hg; try simp only [hg, ct]; try simp only [hg, ct, Bt]
     exact pl th9 hb2_3
   apply gT
   · rfl
   · intro hg; try simp only [hg, ct]; try simp only [hg, ct, Bt]
     exact ps
   refine uA ?_
   refine um ?_
   apply gT
   · rfl
   · intro hg
     exact pf th30 th3 hb3
   apply gT
   · rfl
   · intro hg; try simp only [hg, ct]; try simp only [hg, ct, Bt]
     exact pl th3 hb3
   apply gT
   · rfl
   · intro hg; try simp only [hg, ct]; try simp only [hg, ct, Bt]
     exact pb
   apply gT
   · rfl
   · intro hg; try simp only [hg, ct]; try simp only [hg, ct, Bt]
     exact pm
   apply u_guard
   · exact GC.ct _ _
   · intro hg
     exact pf th30 th9 hb3
   apply u_guard
   · exact GC.ct _ _
   · intro hg; try simp only [hg, ct]; try simp only [hg, ct, Bt]
     exact pl th9 hb3
   apply u_guard
   · exact GC.ct _ _
   · intro hg
     exact pf th24 th9 hb2_3
   apply u_guard
   · exact GC.ct _ _
   · intro hg; try simp only [hg, ct]; try simp only [hg, ct, Bt]
     exact pl th9 hb2_3
   apply u_guard
   · exact GC.ct _ _
   · intro hg; try simp only [hg, ct]; try simp only [hg, ct, Bt]
     exact ps
   apply gT
   · rfl
   · intro hg; try simp only [hg, ct]; try simp only [hg, ct, Bt]
     exact pA
   apply gT
   · rfl
   · intro hg; try simp only [hg, ct]; try simp only [hg, ct, Bt]
     exact pN
   refine uA ?_
   refine u_nil ?_
   refine wc (fun hc14 => ?_) (fun hc14 => ?_) <;> try simp only [Q0, Q1, Q2, Q3, Q4, Q5, Q6, Q7, Q8, ge_iff_le, gt_iff_lt] at hc14
   ·
    refine wr ?_
    refine ua ?_
    refine u_nil ?_
    refine WP.ret ?_
    refine ret_ok rfl ?_ (by omega) (fun t ht => (hk3 t (by omega)).trans ((hk2 t (by omega))))
    -- ret 3
    clear hK4 hK8 hK12
    refine congrArg D.bool ?_
    have hl := hc14
    simp only [matchV, ofCollV]
    grind
   ·
    have hco : ofCollV f e = true := by
      have hl := hc14
      simp only [ofCollV]
      grind
    have hma := match_at hmf hme hk1 hkn hco
    refine WP.skip ?_
    refine hK12 _ ?_
    refine WP.seq fun K16 hK16 => ?_
    refine wr ?_
    refine uf th24 th22 hb2_3 ?_
    refine ul th22 hb2_3 ?_
    refine un th22 ?_
    refine ub ?_
    refine u_nil ?_
    refine wc (fun hc18 => ?_) (fun hc18 => ?_) <;> try simp only [Q0, Q1, Q2, Q3, Q4, Q5, Q6, Q7, Q8, ge_iff_le, gt_iff_lt] at hc18
    ·
     refine wr ?_
     refine ua ?_
     refine u_nil ?_
     refine WP.ret ?_
     refine ret_ok rfl ?_ (by omega) (fun t ht => (hk3 t (by omega)).trans ((hk2 t (by omega))))
     -- ret 4
     clear hK4 hK8 hK12 hK16
     refine congrArg D.bool ?_
     rw [hma]
     have hl := hc18
     simp only [atPathV, List.length_map] at *
     grind
    ·
     have hp0 : ¬ f.path.length = 0 := by simpa using hc18
     refine WP.skip ?_
     refine hK16 _ ?_
     refine WP.seq fun K20 hK20 => ?_
     refine wr ?_
     refine uf th30 th3 hb3 ?_
     refine ul th3 hb3 ?_
     refine u_nil ?_
     refine WP.block ?_
     refine wr ?_
     refine ub ?_
     refine ua ?_
     refine u_nil ?_
     refine wc (fun hc23 => ?_) (fun hc23 => ?_) <;> try simp only [Q0, Q1, Q2, Q3, Q4, Q5, Q6, Q7, Q8, ge_iff_le, gt_iff_lt] at hc23
     ·
      have hkA : e.kind = 2 := by simpa using hc23
      refine wr ?_
      refine uf th30 th27 hb3 ?_
      refine ug th27 hb3 ?_
      refine uf th24 th22 hb2_3 ?_
      refine ul th22 hb2_3 ?_
      refine u_step (o_pcall (pv2 (v := e.doc) (s62 e.doc f.path (check_may (mayE_doc hme (by simpa using hc23)).2))) rfl ?_)
      refine u_step (o_moveV (v := .tup _) rfl ?_)
      refine ue ?_
      refine ue ?_
      refine u_step (g_alloc th27 rfl fun o25 hb25 hk25 => ?_)
      have hb2_25 := (hk25 _ (by omega)).trans hb2_3
      have hb3_25 := (hk25 _ (by omega)).trans hb3
      refine u_step0 (g_sta rfl (congrArg SV.d (encV_eq _)) th27 rfl hb25 (by simp [valCells]) fun o26 hb26 hk26 => ?_)
      have hb2_26 := (hk26 _ (by omega)).trans hb2_25
      have hb3_26 := (hk26 _ (by omega)).trans hb3_25
      refine ua ?_
      refine u_nil ?_
      refine wr ?_
      refine um ?_
      refine ua ?_
      refine u_nil ?_
      refine WP.ret ?_
      refine ret_ok rfl ?_ (by omega) (fun t ht => (hk26 t (by omega)).trans ((hk25 t (by omega)).trans ((hk3 t (by omega)).trans ((hk2 t (by omega))))))
      -- ret 5
      clear hK4 hK8 hK12 hK16 hK20
      refine congrArg D.bool ?_
      rw [hma]
      simp only [atPathV]
      rw [if_neg hp0, if_pos hkA, getP_doc hmf hme hkA hp0]
     ·
      have hkC : ¬ e.kind = 2 := by simpa using hc23
      refine wr ?_
      refine ub ?_
      refine ua ?_
      refine u_nil ?_
      refine wc (fun hc29 => ?_) (fun hc29 => ?_) <;> try simp only [Q0, Q1, Q2, Q3, Q4, Q5, Q6, Q7, Q8, ge_iff_le, gt_iff_lt] at hc29
      ·
       have hkB : e.kind = 3 := by simpa using hc29
       refine WP.seq fun K30 hK30 => ?_
       refine wr ?_
       refine ua ?_
       refine u_nil ?_
       refine WP.block ?_
       refine WP.loopL (ι := Nat) (fun i => ⟨al [(2, .loc nk 0), (3, .loc (nk + 1) 0), (7, .d (.int .i64 i))], o3, ((nk + 1) + 1)⟩) (fun i => i ≤ e.deltas.length ∧ ∀ (j : Nat) (hj : j < e.deltas.length), j < i → meetV (e.deltas[j]'hj).path f.path = false) (fun i => e.deltas.length - i) (fun i hA => ?_) 0 ?_ ?_
       ·
        obtain ⟨hle_i, hin_i⟩ := hA
        refine WP.seq fun K32 hK32 => ?_
        refine wr ?_
        refine um ?_
        refine uf th30 th28 hb3 ?_
        refine ul th28 hb3 ?_
        refine un th28 ?_
        refine ub ?_
        refine u_nil ?_
        refine wc (fun hc34 => ?_) (fun hc34 => ?_) <;> try simp only [Q0, Q1, Q2, Q3, Q4, Q5, Q6, Q7, Q8, ge_iff_le, gt_iff_lt] at hc34
        ·
         refine WP.skip ?_
         refine hK32 _ ?_
         refine WP.seq fun K35 hK35 => ?_
         refine WP.block ?_
         refine wd ?_
         refine df th30 th28 hb3 ?_
         refine dl th28 hb3 ?_
         refine dm ?_
         refine d_step (o_ia_G (xs := e.deltas) default rfl rfl th28 rfl th83 rfl (by simpa using hc34) ⟨rfl, rfl, rfl⟩) ?_
         refine dF th83 th22 ?_
         refine dL th22 ?_
         refine df th24 th22 hb2_3 ?_
         refine dl th22 hb2_3 ?_
         refine d_step (o_pcall (s63 (e.deltas.getD i default).path f.path) rfl ⟨rfl, rfl, rfl⟩) ?_
         refine dm ?_
         apply d_guard
         · exact GC.f _
         · intro hg
           exact pf th24 th22 hb2_3
         apply d_guard
         · exact GC.f _
         · intro hg; try simp only [hg, ct]; try simp only [hg, ct, Bt]
           exact pl th22 hb2_3
         apply d_guard
         · exact GC.f _
         · intro hg
           exact pf th30 th28 hb3
         apply d_guard
         · exact GC.f _
         · intro hg; try simp only [hg, ct]; try simp only [hg, ct, Bt]
           exact pl th28 hb3
         apply d_guard
         · exact GC.f _
         · intro hg
           exact pm
         apply d_guard
         · exact GC.f _
         · intro hg; try simp only [hg, ct]; try simp only [hg, ct, Bt]
           refine o_ia_G (xs := e.deltas) default rfl rfl th28 rfl th83 rfl (by simpa using hc34) ⟨rfl, rfl, rfl⟩
         apply d_guard
         · exact GC.f _
         · intro hg; try simp only [hg, ct]; try simp only [hg, ct, Bt]
           exact pF th83 th22
         apply d_guard
         · exact GC.f _
         · intro hg; try simp only [hg, ct]; try simp only [hg, ct, Bt]
           exact pL th22
         apply d_guard
         · exact GC.f _
         · intro hg; try simp only [hg, ct]; try simp only [hg, ct, Bt]
           refine o_pcall (s63 f.path (e.deltas.getD i default).path) rfl ⟨rfl, rfl, rfl⟩
         refine dO ?_
         refine d_nil ?_
         refine wc (fun hc37 => ?_) (fun hc37 => ?_) <;> try simp only [Q0, Q1, Q2, Q3, Q4, Q5, Q6, Q7, Q8, ge_iff_le, gt_iff_lt] at hc37
         ·
          refine wr ?_
          refine ua ?_
          refine u_nil ?_
          refine WP.ret ?_
          refine ret_ok rfl ?_ (by omega) (fun t ht => (hk3 t (by omega)).trans ((hk2 t (by omega))))
          -- ret 6
          clear hK4 hK8 hK12 hK16 hK20 hK30 hK32 hK35
          refine congrArg D.bool ?_
          rw [hma]
          simp only [atPathV]
          rw [if_neg hp0, if_neg (by omega), if_pos hkB]
          have hl := hc37
          refine (List.any_eq_true.2 ⟨e.deltas[i], List.getElem_mem _, ?_⟩).symm
          have hli : i < e.deltas.length := by omega
          simpa [meetV, hli] using hl
         ·
          refine WP.skip ?_
          refine hK35 _ ?_
          refine WP.reg tabOk rfl ?_
          refine um ?_
          refine ub ?_
          refine ua ?_
          refine u_nil ?_
          -- back
          refine ⟨i + 1, ⟨by omega, ?_⟩, by omega, ?_⟩
          · intro j hj h1
            by_cases h2 : j = i
            · subst h2; have hl := hc37; simpa [meetV, hj] using hl
            · exact hin_i j hj (by omega)
          · refine Le.al ?_
            simp only [List.forall_mem_cons]
            exact ⟨rfl, rfl, cnt (by omega), by simp⟩
        ·
         refine WP.exit ?_
         refine hK30 _ ?_
         refine wr ?_
         refine ua ?_
         refine u_nil ?_
         refine WP.ret ?_
         refine ret_ok rfl ?_ (by omega) (fun t ht => (hk3 t (by omega)).trans ((hk2 t (by omega))))
         -- ret 7
         clear hK4 hK8 hK12 hK16 hK20 hK30 hK32
         refine congrArg D.bool ?_
         rw [hma]
         simp only [atPathV]
         rw [if_neg hp0, if_neg (by omega), if_pos hkB]
         refine (List.any_eq_false.2 fun x hx => ?_).symm
         obtain ⟨j, hj, rfl⟩ := List.mem_iff_getElem.1 hx
         rw [hin_i j hj (by omega)]; simp
       ·
        simp
       ·
        refine Le.al ?_
        simp only [List.forall_mem_cons]
        exact ⟨rfl, rfl, rfl, by simp⟩
      ·
       refine WP.skip ?_
       refine hK20 _ ?_
       refine wr ?_
       refine ua ?_
       refine u_nil ?_
       refine WP.ret ?_
       refine ret_ok rfl ?_ (by omega) (fun t ht => (hk3 t (by omega)).trans ((hk2 t (by omega))))
       -- ret 8
       clear hK4 hK8 hK12 hK16 hK20
       refine congrArg D.bool ?_
       rw [hma]
       simp only [atPathV]
       have h3 : ¬ e.kind = 3 := by simpa using hc29
       have h2 : ¬ e.kind = 2 := hkC
       rw [if_neg hp0, if_neg h2, if_neg h3]

end Go.Proofs.YtpkcbdhjnnnkbaaGreat.Abs

set_option linter.unusedVariables false
set_option linter.unusedSimpArgs false
set_option maxRecDepth 10000
namespace Go.Proofs.YtpkcbdhjnnnkbaaGreat.Abs
open Go
mutual
/-- How many values there are, up to a bound. -/
def nodesN : Val → Nat → Nat
  | .mk _ _ _ xs ns, d => if 40 < d then 1048576 else nodesL xs d (1 + ns.length)
def nodesL : List Val → Nat → Nat → Nat
  | [], _, n => n
  | x :: xs, d, n => if n < 65536 then nodesL xs d (n + nodesN x (d + 1)) else n
end
mutual
theorem nodesN_le : ∀ (v : Val) (d : Nat), nodesN v d ≤ 1048576 * szV v
  | .mk k i t xs ns, d => by
    have h1 := nodesL_le xs d (1 + ns.length)
    have h2 := szN_len ns
    simp only [nodesN, szV]
    split <;> omega
theorem nodesL_le : ∀ (xs : List Val) (d n : Nat), nodesL xs d n ≤ n + 1048576 * szVs xs
  | [], _, n => by simp [nodesL, szVs]
  | x :: xs, d, n => by
    have h1 := nodesN_le x (d + 1)
    have h2 := nodesL_le xs d (n + nodesN x (d + 1))
    simp only [nodesL, szVs]
    split <;> omega
end
theorem nodesL_at {xs : List Val} {i d n : Nat} (h : i < xs.length) (hn : n < 65536) : nodesL (xs.drop i) d n = nodesL (xs.drop (i + 1)) d (n + nodesN (xs[i]'h) (d + 1)) := by
  rw [List.drop_eq_getElem_cons h, nodesL, if_pos hn]
theorem nodesL_full {xs : List Val} {i d n : Nat} (hi : i ≤ xs.length) (h : ¬ (i < xs.length ∧ n < 65536)) : nodesL (xs.drop i) d n = n := by
  by_cases hx : i < xs.length
  · rw [List.drop_eq_getElem_cons hx, nodesL, if_neg (by omega)]
  · have e : xs.drop i = [] := List.drop_eq_nil_of_le (by omega)
    rw [e, nodesL]
theorem wr_arg {P : Program} {f : FuncId} {x : SV} {m : Int} {c : Nat} {r : SV} (h : PSpec P f [x, .d (.int .i64 (c : Int))] r) (e : m = (c : Int)) : PSpec P f [x, .d (.int .i64 m)] r := by rw [e]; exact h
theorem ltN (k n : Nat) : decide ((k : Int) < (n : Int)) = decide (k < n) := by
  rw [Bool.eq_iff_iff]; simp only [decide_eq_true_eq]; omega
theorem lt50 (n : Nat) : decide ((50 : Int) < (n : Int)) = decide (50 < n) := ltN 50 n
def largeV (v : Val) : Bool := decide (3000 < nodesN v 0)
def largeD (l : List Dlt) : Bool := (l.take 70).any (fun d => largeV d.value || decide (50 < d.path.length)) || decide (100 < l.length)
def largeE (e : Etr) : Bool := largeV e.id || largeV e.doc || largeD e.deltas
def largeF (f : Flt) (e : Etr) : Bool := decide (50 < f.path.length) || largeE e
theorem szVs_take : ∀ (xs : List Val) (i : Nat), szVs (xs.take i) ≤ szVs xs
  | [], i => by simp [szVs]
  | x :: xs, 0 => by simp [szVs]
  | x :: xs, i + 1 => by
    have := szVs_take xs i
    simp only [List.take_succ_cons, szVs]; omega
theorem szVs_snoc : ∀ {xs : List Val} {i : Nat} (h : i < xs.length), szVs (xs.take (i + 1)) = szVs (xs.take i) + szV (xs[i]'h)
  | x :: xs, 0, _ => by simp [szVs]
  | x :: xs, i + 1, h => by
    have := szVs_snoc (xs := xs) (i := i) (by simpa using h)
    simp only [List.take_succ_cons, szVs, this, List.getElem_cons_succ]; omega
theorem take70 {l : List Dlt} {p : Dlt → Bool} {i : Nat} (hi : i ≤ l.length) (h : ∀ (j : Nat) (hj : j < l.length), j < i → p l[j] = false) (he : ¬ (i < l.length ∧ i < 70)) : (l.take 70).any p = false := by
  rw [List.any_eq_false]
  intro x hx
  obtain ⟨j, hj, rfl⟩ := List.mem_iff_getElem.1 hx
  rw [List.getElem_take]
  simp at hj
  rw [h j (by omega) (by omega)]; simp
theorem take70t {l : List Dlt} {p : Dlt → Bool} {i : Nat} (hi : i < l.length) (h7 : i < 70) (hp : p (l[i]'hi) = true) : (l.take 70).any p = true :=
  List.any_eq_true.2 ⟨l[i], List.mem_iff_getElem.2 ⟨i, by simp; omega, by rw [List.getElem_take]⟩, hp⟩

theorem fn69 : FnOk Tryz.prog 69 35 [4] (bodyOf Tryz.f69) := ⟨Tryz.f69, Tryz.func69, by kernel_rfl, by decide, by kernel_rfl, by kernel_rfl⟩
theorem s69A (m : Nat) : ∀ (v : Val) (d : Nat), SizeOf.sizeOf v < m → szV v ≤ 1099511627776 → d ≤ 41 → PSpec Tryz.prog 69 [.d (encV v), .d (.int .i64 (d : Int))] (.d (.int .i64 (nodesN v d : Nat))) := by
 induction m with
 | zero => intros; omega
 | succ m ih =>
  rintro ⟨kd, it, tx, xs, ns⟩ d hv hsz hd
  have hsz2 : 1 + tx.length + szVs xs + szN ns ≤ 1099511627776 := hsz
  have hxl := szVs_len xs
  have hnl := szN_len ns
  have hln := encVs_length xs
  refine PSpec.of fn69 (by simp) fun o nk => ?_
  refine wr ?_
  refine u_step (g_box rfl fun o2 hb2 hk2 => ?_)
  refine ua ?_
  refine u_nil ?_
  refine WP.seq fun K3 hK3 => ?_
  refine wr ?_
  refine um ?_
  refine ub ?_
  refine u_nil ?_
  refine wc (fun hc5 => ?_) (fun hc5 => ?_) <;> try simp only [Q0, Q1, Q2, Q3, Q4, Q5, Q6, Q7, Q8, ge_iff_le, gt_iff_lt] at hc5
  ·
   refine wr ?_
   refine ua ?_
   refine u_nil ?_
   refine WP.ret ?_
   refine ret_ok rfl ?_ (by omega) (fun t ht => (hk2 t (by omega)))
   -- ret 1
   clear hK3
   refine congrArg (D.int .i64) ?_
   have hq : 40 < d := by have := hc5; (try simp at this); omega
   rw [nodesN, if_pos hq]; rfl
  ·
   have hd40 : ¬ 40 < d := by have := hc5; (try simp at this); omega
   refine WP.skip ?_
   refine hK3 _ ?_
   refine wr ?_
   refine uf th27 th22 hb2 ?_
   refine ul th22 hb2 ?_
   refine un th22 ?_
   refine ub ?_
   refine ua ?_
   refine u_nil ?_
   refine WP.seq fun K8 hK8 => ?_
   refine wr ?_
   refine ua ?_
   refine u_nil ?_
   refine WP.block ?_
   refine WP.loopL (ι := Nat × Nat) (fun ⟨i, n⟩ => ⟨al [(1, .d (.int .i64 (d : Int))), (2, .loc nk 0), (5, .d (.int .i64 (n : Nat))), (6, .d (.int .i64 i))], o2, (nk + 1)⟩) (fun ⟨i, n⟩ => i ≤ xs.length ∧ n ≤ 1 + ns.length + 1048576 * szVs (xs.take i) ∧ nodesL (xs.drop i) d n = nodesL xs d (1 + ns.length)) (fun ⟨i, n⟩ => xs.length - i) (fun ⟨i, n⟩ hA => ?_) ⟨0, 1 + ns.length⟩ ?_ ?_
   ·
    obtain ⟨hle, hnb, hnn⟩ := hA
    refine WP.seq fun K10 hK10 => ?_
    refine wr ?_
    refine um ?_
    refine uf th27 th25 hb2 ?_
    refine ul th25 hb2 ?_
    refine un th25 ?_
    refine ub ?_
    refine um ?_
    apply gT
    · rfl
    · intro hg
      exact pm
    apply gT
    · rfl
    · intro hg; try simp only [hg, ct]; try simp only [hg, ct, Bt]
      exact pb
    refine uA ?_
    refine u_nil ?_
    refine wc (fun hc12 => ?_) (fun hc12 => ?_) <;> try simp only [Q0, Q1, Q2, Q3, Q4, Q5, Q6, Q7, Q8, ge_iff_le, gt_iff_lt] at hc12
    ·
     have hin2 : i < xs.length ∧ n < 65536 := by have := hc12; (try simp [encVs_length] at this); omega
     refine WP.skip ?_
     refine hK10 _ ?_
     refine WP.seq fun K13 hK13 => ?_
     refine WP.block ?_
     refine WP.reg tabOk rfl ?_
     refine um ?_
     refine uf th27 th25 hb2 ?_
     refine ul th25 hb2 ?_
     refine um ?_
     first | refine u_step (o_ia_map rfl rfl th25 rfl th27 rfl (by omega) ?_) | refine u_step (o_ia_vs rfl rfl th25 rfl th27 rfl (by omega) ?_)
     refine uL th27 ?_
     refine um ?_
     refine ub ?_
     refine u_step (o_pcall (wr_arg (c := d + 1) (ih xs[i] (d + 1) (by exact items_lt' (by omega) hv) (by have := szVs_get (xs := xs) (j := i) (by omega); omega) (by omega)) (by rw [wrap_i64 (by omega) (by omega)]; omega)) rfl ?_)
     refine ub ?_
     refine ua ?_
     refine u_nil ?_
     refine hK13 _ ?_
     refine WP.reg tabOk rfl ?_
     refine um ?_
     refine ub ?_
     refine ua ?_
     refine u_nil ?_
     -- back
     have hb1 := nodesN_le xs[i] (d + 1)
     have hb2 := szVs_snoc (xs := xs) (i := i) (by omega)
     have hb3 := szVs_take xs (i + 1)
     refine ⟨⟨i + 1, n + nodesN xs[i] (d + 1)⟩, ⟨by omega, by omega, ?_⟩, by simp only; omega, ?_⟩
     · rw [← hnn, nodesL_at hin2.1 hin2.2]
     · refine Le.al ?_
       simp only [List.forall_mem_cons]
       exact ⟨rfl, rfl, add_w rfl (by omega), cnt (by omega), by simp⟩
    ·
     have hin2 : ¬ (i < xs.length ∧ n < 65536) := by have := hc12; (try simp [encVs_length] at this); omega
     refine WP.exit ?_
     refine hK8 _ ?_
     refine wr ?_
     refine um ?_
     refine ua ?_
     refine u_nil ?_
     refine WP.ret ?_
     refine ret_ok rfl ?_ (by omega) (fun t ht => (hk2 t (by omega)))
     -- ret 2
     clear hK3 hK8 hK10
     refine congrArg (D.int .i64) ?_
     rw [nodesN, if_neg hd40, ← hnn, nodesL_full hle hin2]
   ·
    exact ⟨by omega, by omega, rfl⟩
   ·
    refine Le.al ?_
    simp only [List.forall_mem_cons]
    refine ⟨rfl, rfl, ?_, rfl, by simp⟩
    have hw : IntKind.i64.wrap (1 + ((ns.map D.str).length : Int)) = ((1 + ns.length : Nat) : Int) := by rw [List.length_map, wrap_i64 (by omega) (by omega)]; omega
    rw [← hw]; rfl
theorem s69 (v : Val) (d : Nat) (hsz : szV v ≤ 1099511627776) (hd : d ≤ 41) : PSpec Tryz.prog 69 [.d (encV v), .d (.int .i64 (d : Int))] (.d (.int .i64 (nodesN v d : Nat))) := s69A _ v d (Nat.lt_succ_self _) hsz hd

theorem fn26 : FnOk Tryz.prog 26 6 [2] (bodyOf Tryz.f26) := ⟨Tryz.f26, Tryz.func26, by kernel_rfl, by decide, by kernel_rfl, by kernel_rfl⟩
theorem s26 (v : Val) (hsz : szV v ≤ 1099511627776) : PSpec Tryz.prog 26 [.d (encV v)] (.d (.bool (largeV v))) := by
 obtain ⟨kd, it, tx, xs, ns⟩ := v
 refine PSpec.of fn26 (by simp) fun o nk => ?_
 refine wr ?_
 refine u_step (g_box rfl fun o2 hb2 hk2 => ?_)
 refine ua ?_
 refine u_nil ?_
 refine wr ?_
 refine ug th27 hb2 ?_
 refine u_step (o_pcall (s69 (.mk kd it tx xs ns) 0 hsz (by omega)) rfl ?_)
 refine ub ?_
 refine ua ?_
 refine u_nil ?_
 refine WP.ret ?_
 refine ret_ok rfl ?_ (by omega) (fun t ht => (hk2 t (by omega)))
 -- ret 1
 refine congrArg D.bool ?_
 unfold largeV
 rw [Bool.eq_iff_iff]
 simp only [decide_eq_true_eq]
 omega

theorem fn25 : FnOk Tryz.prog 25 32 [2] (bodyOf Tryz.f25) := ⟨Tryz.f25, Tryz.func25, by kernel_rfl, by decide, by kernel_rfl, by kernel_rfl⟩
theorem s25 (l : List Dlt) (hl : ∀ d ∈ l, szV d.value ≤ 1099511627776) : PSpec Tryz.prog 25 [.d (.sl 8 (l.map encD))] (.d (.bool (largeD l))) := by
 refine PSpec.bd fun hbd => ?_
 have hx : l.length ≤ 9223372036854775807 := by simpa using hbd.1.1
 refine PSpec.of fn25 (by simp) fun o nk => ?_
 refine wr ?_
 refine ua ?_
 refine u_nil ?_
 refine WP.seq fun K2 hK2 => ?_
 refine wr ?_
 refine ua ?_
 refine u_nil ?_
 refine WP.block ?_
 refine WP.loopL (ι := Nat) (fun i => ⟨al [(0, .d (.sl 8 (l.map encD))), (3, .d (.int .i64 i))], o, nk⟩) (fun i => i ≤ l.length ∧ ∀ (j : Nat) (hj : j < l.length), j < i → (largeV l[j].value || decide (50 < l[j].path.length)) = false) (fun i => l.length - i) (fun i hA => ?_) 0 ?_ ?_
 ·
  obtain ⟨hle_i, hin_i⟩ := hA
  refine WP.seq fun K4 hK4 => ?_
  refine wr ?_
  refine um ?_
  refine um ?_
  refine un th28 ?_
  refine ub ?_
  refine um ?_
  apply gT
  · rfl
  · intro hg
    exact pm
  apply gT
  · rfl
  · intro hg; try simp only [hg, ct]; try simp only [hg, ct, Bt]
    exact pb
  refine uA ?_
  refine u_nil ?_
  refine wc (fun hc6 => ?_) (fun hc6 => ?_) <;> try simp only [Q0, Q1, Q2, Q3, Q4, Q5, Q6, Q7, Q8, ge_iff_le, gt_iff_lt] at hc6
  ·
   have hin2 : i < l.length ∧ i < 70 := by have := hc6; (try simp at this); omega
   have hil := hin2.1
   have hgd : l.getD i default = l[i] := by simp [hil]
   refine WP.skip ?_
   refine hK4 _ ?_
   refine WP.seq fun K7 hK7 => ?_
   refine WP.block ?_
   refine wr ?_
   refine um ?_
   refine um ?_
   refine u_step (o_ia_G (xs := l) default rfl rfl th28 rfl th83 rfl hin2.1 ?_)
   refine uF th83 th27 ?_
   refine uL th27 ?_
   refine u_step (o_pcall (pv (v := (l.getD i default).value) (s26 _ (by rw [hgd]; exact hl _ (List.getElem_mem _)))) rfl ?_)
   refine um ?_
   apply gF
   · rfl
   · intro hg
     exact pm
   apply gF
   · rfl
   · intro hg
     exact pm
   apply gF
   · rfl
   · intro hg; try simp only [hg, ct]; try simp only [hg, ct, Bt]
     refine o_ia_G (xs := l) default rfl rfl th28 rfl th83 rfl hin2.1 ⟨rfl, rfl, rfl⟩
   apply gF
   · rfl
   · intro hg; try simp only [hg, ct]; try simp only [hg, ct, Bt]
     exact pF th83 th22
   apply gF
   · rfl
   · intro hg; try simp only [hg, ct]; try simp only [hg, ct, Bt]
     exact pL th22
   apply gF
   · rfl
   · intro hg; try simp only [hg, ct]; try simp only [hg, ct, Bt]
     exact pn th22
   apply gF
   · rfl
   · intro hg; try simp only [hg, ct]; try simp only [hg, ct, Bt]
     exact pb
   refine uO ?_
   refine u_nil ?_
   refine wc (fun hc9 => ?_) (fun hc9 => ?_) <;> try simp only [Q0, Q1, Q2, Q3, Q4, Q5, Q6, Q7, Q8, ge_iff_le, gt_iff_lt] at hc9
   ·
    refine wr ?_
    refine ua ?_
    refine u_nil ?_
    refine WP.ret ?_
    refine ret_ok rfl ?_ (by omega) (fun _ _ => rfl)
    -- ret 1
    clear hK2 hK4 hK7
    refine congrArg D.bool ?_
    have hlq := hc9
    unfold largeD
    rw [take70t (p := fun d => largeV d.value || decide (50 < d.path.length)) hin2.1 hin2.2 (by rw [hgd] at hlq; simpa only [List.length_map, lt50] using hlq)]; rfl
   ·
    refine WP.skip ?_
    refine hK7 _ ?_
    refine WP.reg tabOk rfl ?_
    refine um ?_
    refine ub ?_
    refine ua ?_
    refine u_nil ?_
    -- back
    refine ⟨i + 1, ⟨by omega, ?_⟩, by omega, ?_⟩
    · intro j hj h1
      by_cases h2 : j = i
      · subst h2; have hlq := hc9; rw [hgd] at hlq; simpa only [List.length_map, lt50] using hlq
      · exact hin_i j hj (by omega)
    · refine Le.al ?_
      simp only [List.forall_mem_cons]
      exact ⟨rfl, cnt (by omega), by simp⟩
  ·
   have hin2 : ¬ (i < l.length ∧ i < 70) := by have := hc6; (try simp at this); omega
   refine WP.exit ?_
   refine hK2 _ ?_
   refine wr ?_
   refine um ?_
   refine un th28 ?_
   refine ub ?_
   refine ua ?_
   refine u_nil ?_
   refine WP.ret ?_
   refine ret_ok rfl ?_ (by omega) (fun _ _ => rfl)
   -- ret 2
   clear hK2 hK4
   refine congrArg D.bool ?_
   unfold largeD
   rw [take70 (p := fun d => largeV d.value || decide (50 < d.path.length)) hle_i hin_i hin2, Bool.eq_iff_iff]
   simp
   omega
 ·
  simp
 ·
  refine Le.al ?_
  simp only [List.forall_mem_cons]
  exact ⟨rfl, rfl, by simp⟩

theorem fn22 : FnOk Tryz.prog 22 16 [2] (bodyOf Tryz.f22) := ⟨Tryz.f22, Tryz.func22, by kernel_rfl, by decide, by kernel_rfl, by kernel_rfl⟩
theorem s22 (e : Etr) (ok : OkE e) (okd : ∀ d ∈ e.deltas, szV d.value ≤ 1099511627776) : PSpec Tryz.prog 22 [.d (encE e)] (.d (.bool (largeE e))) := by
 refine PSpec.of fn22 (by simp) fun o nk => ?_
 refine wr ?_
 refine u_step (g_box rfl fun o2 hb2 hk2 => ?_)
 refine ua ?_
 refine u_nil ?_
 refine wr ?_
 refine uf th30 th27 hb2 ?_
 refine ug th27 hb2 ?_
 refine u_step (o_pcall (pv (v := e.id) (s26 e.id ok.si)) rfl ?_)
 refine um ?_
 apply gF
 · rfl
 · intro hg
   exact pf th30 th27 hb2
 apply gF
 · rfl
 · intro hg; try simp only [hg, ct]; try simp only [hg, ct, Bt]
   exact pg th27 hb2
 apply gF
 · rfl
 · intro hg; try simp only [hg, ct]; try simp only [hg, ct, Bt]
   refine o_pcall (pv (v := e.doc) (s26 e.doc ok.sd)) rfl ⟨rfl, rfl, rfl⟩
 refine uO ?_
 refine um ?_
 apply gF
 · rfl
 · intro hg
   exact pf th30 th28 hb2
 apply gF
 · rfl
 · intro hg; try simp only [hg, ct]; try simp only [hg, ct, Bt]
   exact pl th28 hb2
 apply gF
 · rfl
 · intro hg; try simp only [hg, ct]; try simp only [hg, ct, Bt]
   refine o_pcall (s25 e.deltas okd) rfl ⟨rfl, rfl, rfl⟩
 refine uO ?_
 refine ua ?_
 refine u_nil ?_
 refine WP.ret ?_
 refine ret_ok rfl ?_ (by omega) (fun t ht => (hk2 t (by omega)))
 -- ret 1
 rfl

theorem fn13 : FnOk Tryz.prog 13 13 [4] (bodyOf Tryz.f13) := ⟨Tryz.f13, Tryz.func13, by kernel_rfl, by decide, by kernel_rfl, by kernel_rfl⟩
theorem s13 (f : Flt) (e : Etr) (ok : OkE e) (okd : ∀ d ∈ e.deltas, szV d.value ≤ 1099511627776) : PSpec Tryz.prog 13 [.d (encF f), .d (encE e)] (.d (.bool (largeF f e))) := by
 refine PSpec.of fn13 (by simp) fun o nk => ?_
 refine wr ?_
 refine u_step (g_box rfl fun o2 hb2 hk2 => ?_)
 refine u_step (g_box rfl fun o3 hb3 hk3 => ?_)
 have hb2_3 := (hk3 _ (by omega)).trans hb2
 refine ua ?_
 refine u_nil ?_
 refine wr ?_
 refine uf th24 th22 hb2_3 ?_
 refine ul th22 hb2_3 ?_
 refine un th22 ?_
 refine ub ?_
 refine um ?_
 apply gF
 · rfl
 · intro hg
   exact pg th30 hb3
 apply gF
 · rfl
 · intro hg; try simp only [hg, ct]; try simp only [hg, ct, Bt]
   refine o_pcall (s22 e ok okd) rfl ⟨rfl, rfl, rfl⟩
 refine uO ?_
 refine ua ?_
 refine u_nil ?_
 refine WP.ret ?_
 refine ret_ok rfl ?_ (by omega) (fun t ht => (hk3 t (by omega)).trans ((hk2 t (by omega))))
 -- ret 1
 refine congrArg D.bool ?_
 simp only [largeF, List.length_map, lt50]

end Go.Proofs.YtpkcbdhjnnnkbaaGreat.Abs

/- The row's opening: what is read as data is held by values; its closing: what was read is there still. -/
set_option linter.unusedVariables false
set_option linter.unusedSimpArgs false
namespace Go.Proofs.YtpkcbdhjnnnkbaaGreat.Abs
open Go
open Go.ChangeShapes Go.WideShapes Go.ChangeAt Go.RowKit Go.WideElems

def Sof (w : World) : Nat → Prop := fun k => k < w.heap.size
/-- Values, cell by cell. -/
def RdC (w : World) (xs : List D) (cs : List Value) : Prop := cs.length = xs.length ∧ ∀ (i : Nat) (x : D) (v : Value), xs[i]? = some x → cs[i]? = some v → Rd w (Sof w) x v
def D.cl : D → List D
  | .agg xs => xs
  | x => [x]
def D.ok1 : D → Prop
  | .agg xs => xs.all D.leaf = true
  | _ => True
theorem val_of {w : World} {x : D} {cs : List Value} (h : RdC w x.cl cs) (ho : x.ok1) : ∃ v : Value, v.cells.toList = cs ∧ Rd w (Sof w) x v := by
  obtain ⟨h1, h2⟩ := h
  by_cases hx : x.leaf = true
  · have hc : x.cl = [x] := by cases x <;> first | rfl | (simp [D.leaf] at hx)
    rw [hc] at h1 h2
    match cs, h1 with
    | [v], _ =>
      have hr := h2 0 x v rfl rfl
      exact ⟨v, by rw [hr.leaf_cells hx], hr⟩
  · cases x <;> simp [D.leaf] at hx
    rename_i xs
    exact ⟨.agg cs.toArray, by simp [Value.cells], .agg xs cs ho h1 h2⟩
theorem rdC_one {w : World} {x : D} {v : Value} (h : Rd w (Sof w) x v) : RdC w [x] [v] := by
  refine ⟨rfl, fun i y u h1 h2 => ?_⟩
  match i with
  | 0 => simp at h1 h2; subst h1; subst h2; exact h
  | i + 1 => simp at h1
theorem rdC_nil {w : World} {cs : List Value} {o : Nat} (h : cs.length = o) : RdC w [] (cs.drop o) := ⟨by simp [h], fun i x v h => by simp at h⟩
theorem rdC_cat {w : World} {xs ys : List D} {cs : List Value} {o n : Nat} (h1 : RdC w xs ((cs.drop o).take n)) (hn : xs.length = n) (h2 : RdC w ys (cs.drop (o + n))) : RdC w (xs ++ ys) (cs.drop o) := by
  obtain ⟨a1, a2⟩ := h1
  obtain ⟨b1, b2⟩ := h2
  have hl : n ≤ (cs.drop o).length := by simp at a1 ⊢; omega
  have he : cs.drop o = (cs.drop o).take n ++ cs.drop (o + n) := by rw [← List.drop_drop]; exact (List.take_append_drop n _).symm
  refine ⟨by simp at b1 hl ⊢; omega, fun i x v hx hv => ?_⟩
  rcases Nat.lt_or_ge i xs.length with h | h
  · rw [List.getElem?_append_left h] at hx
    exact a2 i x v hx (by rw [List.getElem?_take, if_pos (by omega)]; exact hv)
  · rw [List.getElem?_append_right h] at hx
    refine b2 (i - xs.length) x v hx ?_
    rw [List.getElem?_drop] at hv ⊢
    rw [show o + n + (i - xs.length) = o + i by omega]; exact hv

theorem list_of {α : Type} {Q : Nat → α → Prop} : ∀ n, (∀ i, i < n → ∃ a, Q i a) → ∃ l : List α, l.length = n ∧ ∀ i a, l[i]? = some a → Q i a
  | 0, _ => ⟨[], rfl, by simp⟩
  | n + 1, h => by
    obtain ⟨l, h1, h2⟩ := list_of n fun i hi => h i (by omega)
    obtain ⟨a, ha⟩ := h n (by omega)
    refine ⟨l ++ [a], by simp [h1], fun i b hb => ?_⟩
    rcases Nat.lt_or_ge i l.length with hi | hi
    · rw [List.getElem?_append_left hi] at hb; exact h2 i b hb
    · rw [List.getElem?_append_right hi] at hb
      have : i - l.length = 0 := by
        rcases Nat.eq_zero_or_pos (i - l.length) with h' | h'
        · exact h'
        · rw [List.getElem?_eq_none (by simp; omega)] at hb; cases hb
      rw [this] at hb
      simp at hb
      subst hb
      rw [show i = n by omega]; exact ha
theorem mapM_some {α β : Type} {f : α → Option β} : ∀ {l : List α} {r : List β}, l.mapM f = some r → r.length = l.length ∧ ∀ (i : Nat) (a : α), l[i]? = some a → f a = r[i]?
  | [], r, h => by
    simp at h; subst h; exact ⟨rfl, by simp⟩
  | a :: l, r, h => by
    rw [List.mapM_cons] at h
    simp only [Option.bind_eq_bind, Option.bind_eq_some_iff, Option.pure_def, Option.some.injEq] at h
    obtain ⟨b, hb, r', hr, rfl⟩ := h
    obtain ⟨h1, h2⟩ := mapM_some hr
    refine ⟨by simp [h1], fun i x hx => ?_⟩
    match i with
    | 0 => simp at hx; subst hx; simpa using hb
    | i + 1 => simpa using h2 i x (by simpa using hx)
theorem cells_some {w : World} {b n : Nat} {a : Addr} {cs : List Value} (h : w.cells? b a n = some cs) : cs.length = n ∧ ∀ j, j < n → w.cell? (a.add j) = cs[j]? := by
  unfold World.cells? at h
  split at h
  · obtain ⟨h1, h2⟩ := mapM_some h
    rw [List.length_range] at h1
    exact ⟨h1, fun j hj => h2 j j (by rw [List.getElem?_range hj])⟩
  · cases h

section
variable {H : Type} {enc : TypeId × Value → H} {P : Program} {w : World} {base fuel : Nat} {spare : Nat → Bool} {held : Bool} {t e : TypeId} {cs : List Value} {x : DataW H × List MemPlace}

/-- Elements and their data. -/
def All2 {α : Type} (A : α → DataW H → Prop) (l : List α) (es : List (DataW H)) : Prop := l.length = es.length ∧ ∀ (i : Nat) (a : α) (y : DataW H), l[i]? = some a → es[i]? = some y → A a y
def SlD {α : Type} (A : α → DataW H → Prop) (l : List α) (d : DataW H) : Prop := (d = .nil ∧ l = []) ∨ ∃ es sp, d = .slice es sp ∧ All2 A l es

theorem rd_slice {α : Type} {z : Nat} (encA : α → D) (A : α → DataW H → Prop) (hu : P.underlying t = some (.slice e)) (hz : P.cellsOf e = z) (hz0 : 0 < z) (hzA : ∀ a, (encA a).cl.length = z) (hok : ∀ a, (encA a).ok1)
    (h : DataW.trod enc P w base spare held fuel t cs = some x)
    (he : ∀ n cs x, n < fuel → DataW.trod enc P w base spare held n e cs = some x → ∃ a, RdC w (encA a).cl cs ∧ A a x.1) :
    ∃ l : List α, RdC w [.sl z (l.map encA)] cs ∧ SlD A l x.1 := by
  rcases DataW.trod_slice hu h with ⟨rfl, rfl⟩ | ⟨a, len, cap, elems, rest, n, hf, rfl, rfl, hb, hlc, hcm, hlen, hel, _⟩
  · exact ⟨[], rdC_one (.emp _ _ _ (by omega)), .inl ⟨rfl, rfl⟩⟩
  · rw [hz] at hel
    have key : ∀ i, i < len → ∃ p : α × Value, (∃ cs', w.cells? base (a.add (i * z)) z = some cs' ∧ p.2.cells.toList = cs') ∧ Rd w (Sof w) (encA p.1) p.2 ∧ ∀ y, elems[i]? = some y → A p.1 y.1 := by
      intro i hi
      have h1 := hel i hi
      rw [List.getElem?_eq_getElem (by omega)] at h1
      obtain ⟨cs', h2, h3⟩ := Option.bind_eq_some_iff.1 h1
      obtain ⟨b, h4, h5⟩ := he n cs' _ (by omega) h3
      obtain ⟨v, h6, h7⟩ := val_of h4 (hok b)
      refine ⟨(b, v), ⟨cs', h2, h6⟩, h7, fun y hy => ?_⟩
      rw [List.getElem?_eq_getElem (by omega)] at hy
      injection hy with hy
      rw [← hy]; exact h5
    obtain ⟨l, hl1, hl2⟩ := list_of len key
    refine ⟨l.map (·.1), ?_, .inr ⟨_, _, rfl, by simp [hl1, hlen], fun i b y hb' hy => ?_⟩⟩
    · refine rdC_one ?_
      rcases Nat.eq_zero_or_pos len with h0 | h0
      · have : l = [] := List.eq_nil_of_length_eq_zero (by omega)
        subst this
        subst h0
        exact .emp _ _ _ (by simpa [maxLen] using hcm)
      · have hS : Sof w a.block := by
          obtain ⟨p, ⟨cs', h1, _⟩, _⟩ := key 0 h0
          obtain ⟨h2, h3⟩ := cells_some h1
          have h4 := h3 0 hz0
          rw [List.getElem?_eq_getElem (by omega)] at h4
          have := World.block_lt_of_cell? w _ h4
          rwa [add_block, add_block] at this
        have hlm : ((l.map (·.1)).map encA).length = len := by simp [hl1]
        rw [← hlm]
        refine .sl z _ a cap (l.map (·.2)) (by omega) (by simpa [maxLen] using hcm) hS (by simp [hl1]) (fun i y v hy hv => ?_) (fun i v hv => ?_) (fun i j v u hv hu' => ?_)
        · rw [List.getElem?_map, List.getElem?_map] at hy
          rw [List.getElem?_map] at hv
          cases hp : l[i]? with
          | none => rw [hp] at hv; cases hv
          | some p =>
            rw [hp] at hy hv
            simp at hy hv
            subst hy; subst hv
            exact (hl2 i p hp).2.1
        · rw [List.getElem?_map] at hv
          obtain ⟨p, hp, rfl⟩ := Option.map_eq_some_iff.1 hv
          obtain ⟨⟨cs', h1, h2⟩, _, _⟩ := hl2 i p hp
          have := (cells_some h1).1
          rw [← h2] at this
          simpa using this
        · rw [List.getElem?_map] at hv
          obtain ⟨p, hp, rfl⟩ := Option.map_eq_some_iff.1 hv
          obtain ⟨⟨cs', h1, h2⟩, _, _⟩ := hl2 i p hp
          obtain ⟨h3, h4⟩ := cells_some h1
          have hj : j < p.2.cells.size := (Array.getElem?_eq_some_iff.1 hu').1
          have hjz : j < z := by
            rw [← h2] at h3
            simp at h3
            omega
          have h5 := h4 j hjz
          rw [Addr_add_add] at h5
          rw [h5, ← h2]
          simpa using hu'
    · rw [List.getElem?_map] at hb' hy
      obtain ⟨p, hp, rfl⟩ := Option.map_eq_some_iff.1 hb'
      obtain ⟨q, hq, rfl⟩ := Option.map_eq_some_iff.1 hy
      exact (hl2 i p hp).2.2 q hq

theorem rd_int {k : IntKind} (hu : P.underlying t = some (.int k)) (h : DataW.trod enc P w base spare held fuel t cs = some x) : ∃ n, RdC w [.int k n] cs ∧ x.1 = .lit (.int k n) ∧ (Lit.int k n).wf = true := by
  obtain ⟨n, rfl, rfl, hw⟩ := DataW.trod_int hu h
  exact ⟨n, rdC_one (.int _ _), rfl, hw⟩
theorem rd_bool (hu : P.underlying t = some .bool) (h : DataW.trod enc P w base spare held fuel t cs = some x) : ∃ b, RdC w [.bool b] cs ∧ x.1 = .lit (.bool b) := by
  obtain ⟨b, rfl, rfl⟩ := DataW.trod_bool hu h
  exact ⟨b, rdC_one (.bool _), rfl⟩
theorem rd_str (hu : P.underlying t = some .string) (h : DataW.trod enc P w base spare held fuel t cs = some x) : ∃ s : List UInt8, RdC w [.str s] cs ∧ x.1 = .lit (.string s) := by
  obtain ⟨s, rfl, rfl, hs⟩ := DataW.trod_string hu h
  refine ⟨s.data.toList, rdC_one ?_, rfl⟩
  have he : (⟨s.data.toList.toArray⟩ : ByteArray) = s := by
    apply ByteArray.ext
    simp
  have := Rd.str (w := w) (S := Sof w) s.data.toList (by
    have hl : s.data.toList.length = s.size := by rw [Array.length_toList]; rfl
    unfold maxLen at hs; omega)
  rwa [he] at this
/-- A struct's fields. -/
theorem rd_struct {i : TI} {fs : List (Nat × Nat)} (hT : TOk P t i) (hk : i.k = .struct fs) (h : DataW.trod enc P w base spare held fuel t cs = some x) :
    ∃ (xs : List (DataW H × List MemPlace)) (n : Nat), n < fuel ∧ x.1 = .agg (xs.map (·.1)) ∧ cs.length = P.cellsOf t ∧ xs.length = fs.length ∧
      ∀ (i : Nat) (f : Nat × Nat), fs[i]? = some f → DataW.trod enc P w base spare held n f.2 ((cs.drop f.1).take (P.cellsOf f.2)) = xs[i]? := by
  obtain ⟨F, hF, rfl, _⟩ := hT.struct hk
  obtain ⟨xs, n, hf, hx, hl, hlen, hfs⟩ := DataW.trod_struct hF h
  refine ⟨xs, n, by omega, by rw [hx], hl, by simp [hlen], fun j f hj => ?_⟩
  rw [List.getElem?_map] at hj
  obtain ⟨g, hg, rfl⟩ := Option.map_eq_some_iff.1 hj
  exact hfs j g (by simpa using hg)
theorem wf_i64 {n : Int} (h : (Lit.int .i64 n).wf = true) : -9223372036854775808 ≤ n ∧ n ≤ 9223372036854775807 := bounds_i64 h
theorem wf_u8 {n : Int} (h : (Lit.int .u8 n).wf = true) : 0 ≤ n ∧ n ≤ 255 := bounds_u8 h
end

theorem rdv_struct {P : Program} {w W : World} {r : Reach} {base : Nat} {t : TypeId} {i : TI} {fs : List (Nat × Nat)} {x : D} {v : Value} (h : Value.okWide P W r base t v) (hT : TOk P t i) (hk : i.k = .struct fs) (hc : RdC w x.cl v.cells.toList) (hl : x = .agg x.cl) (ho : x.ok1) : Rd w (Sof w) x v := by
  obtain ⟨F, hF, _, _⟩ := hT.struct hk
  unfold Value.okWide at h
  rw [hF] at h
  obtain ⟨cs, rfl, _, _⟩ := h
  rw [hl] at hc ho ⊢
  have : cs = cs.toList.toArray := by simp
  rw [this]
  exact .agg _ _ ho (by simpa [Value.cells, D.cl] using hc.1) (fun j y u h1 h2 => hc.2 j y u (by simpa [D.cl] using h1) (by simpa [Value.cells] using h2))
theorem rdv_one {P : Program} {w W : World} {r : Reach} {base : Nat} {t : TypeId} {i : TI} {x : D} {v : Value} (h : Value.okWide P W r base t v) (hT : TOk P t i) (hk : i.k.agg = false) (hc : RdC w [x] v.cells.toList) : Rd w (Sof w) x v := by
  have hne : ∀ cs, v ≠ .agg cs := by
    rintro cs rfl
    have hk2 := hT.k
    unfold tkOf at hk2
    unfold Value.okWide Cell.okWide Cell.ok at h
    cases hu : P.underlying t with
    | none => rw [hu] at h; simp at h
    | some d =>
      rw [hu] at h hk2
      cases d <;> simp at h hk2
      all_goals first
        | (rw [← hk2] at hk; cases hk)
        | (rw [← hk2.2] at hk; cases hk)
  have hv : v.cells = #[v] := by
    cases v <;> first | rfl | exact absurd rfl (hne _)
  rw [hv] at hc
  exact hc.2 0 x v rfl rfl
/-! ### the close -/
section
variable {H : Type} {enc : TypeId × Value → H} {P : Program}
theorem post_of_below {f : Func} {s : ChangeSpec} {apart fresh handsOn again : Bool} {W W' : World} {args : Array Value} {v : Value} {ds gs : List (DataW H)} {before pa pv : List MemPlace}
    (hW : DataW.Whole enc P f.params.toList s.vars apart W args.toList ds gs before)
    (hres : ∀ (b : Nat) (sp : Nat → Bool) (hd : Bool), DataW.TrodAll enc P W' b sp hd f.resultTypes.toList (v.resultList f.resultTypes.size) (s.fn H (ds ++ gs)).results [])
    (hargs : ∀ sp : Nat → Bool, (∀ p ∈ before, sp p.block = true) → DataW.TrodAll enc P W' 0 sp true f.params.toList args.toList (s.fn H (ds ++ gs)).args pa)
    (hvars : ∀ sp : Nat → Bool, (∀ p ∈ before, sp p.block = true) → DataW.TrodVars enc P W' sp s.vars (s.fn H (ds ++ gs)).vars pv)
    (hps : before = pa ++ pv) (hb : Below W.heap.size W W')
    (hok : ∀ (j : Nat) (t : TypeId) (r : Value), f.resultTypes[j]? = some t → (v.resultList f.resultTypes.size)[j]? = some r → Value.okWide P W' .any 0 t r) :
    s.post enc P f apart fresh handsOn again W args v W' := by
  have hlt : ∀ p ∈ before, p.block < W.heap.size := fun p hp => hW.lt p hp
  have hold : ∀ p ∈ before, (fun b => decide (b < W.heap.size)) p.block = true := fun p hp => by simpa using hlt p hp
  refine ⟨ds, gs, before, [], pa, pv, hW, hres _ _ _, hargs _ hold, hvars _ hold, World.keptBut_mono (fun p hp => ⟨hp, ?_⟩) (hb.frame (· ∈ before)), fun _ => ?_⟩
  · rw [hps, List.mem_append] at hp
    exact Or.inr hp
  · obtain ⟨_, _, _, _, _, hz, hn⟩ := hW
    refine ⟨hok, _, _, ([] ++ pa) ++ pv, ⟨[] ++ pa, pv, trodAll_append (hargs _ (fun _ _ => rfl)) (hres _ _ _), hvars _ (fun _ _ => rfl), rfl, ?_, ?_⟩, ?_⟩
    · intro b off hp
      have hin : MemPlace.cell b off ∈ before := by rw [hps]; simpa using hp
      rw [hb.frozen (hlt _ hin)]
      exact hz b off hin
    · intro ha
      have := hn ha
      rw [hps] at this
      simpa using this
    · intro p hp _
      rw [hps]
      simpa using hp
theorem trodAll_stays (hl : laidOutB P = true) {W W' : World} (hb : Below W.heap.size W W') : ∀ {ts : List TypeId} {vs : List Value} {ds : List (DataW H)} {ps : List MemPlace} {sp : Nat → Bool}, (ts.all fun t => P.readableRec t && decide (t < P.types.size)) = true →
    DataW.TrodAll enc P W 0 (fun _ => true) true ts vs ds ps → (∀ p ∈ ps, sp p.block = true) → (∀ p ∈ ps, p.block < W.heap.size) → DataW.TrodAll enc P W' 0 sp true ts vs ds ps
  | [], vs, ds, ps, sp, _, h, _, _ => by
    obtain ⟨rfl, rfl, rfl⟩ := trodAll_nil h
    rfl
  | t :: ts, vs, ds, ps, sp, ht, h, hs, hlt => by
    obtain ⟨v, vs', d, ds', p, q, rfl, rfl, rfl, h1, h2⟩ := trodAll_cons h
    simp only [List.all_cons, Bool.and_eq_true, decide_eq_true_eq] at ht
    exact trodAll_cons_mk (Trod_stays hl ht.1.1 ht.1.2 h1 (fun x hx => hb.same (hlt x (by simp [hx]))) fun x hx => hs x (by simp [hx])) (trodAll_stays hl hb ht.2 h2 (fun x hx => hs x (by simp [hx])) fun x hx => hlt x (by simp [hx]))
/-- A law that answers yes, called. -/
theorem calls_of_spec {f : FuncId} {fn : Func} {W : World} {vs : List Value} {ds : List D} (hfn : P.funcs[f]? = some fn) (hbody : fn.body.isSome = true) (hname : (fn.name == "runtime.NumGoroutine") = false) (h : PSpec P f (ds.map .d) (.d (.bool true))) (hr : vs.length = ds.length ∧ ∀ (i : Nat) (x : D) (v : Value), ds[i]? = some x → vs[i]? = some v → Rd W (Sof W) x v) :
    Calls P f vs.toArray W fun e W' => e = .returned (.bool true) ∧ Below W.heap.size W W' := by
  have hsto : Sto W (Sof W) (fun _ => undef) (fun _ => none) 0 := ⟨fun k hk => hk, by simp, by simp, by simp, by simp, by simp, by simp⟩
  have hd := h (fun _ => none) 0 W (Sof W) (fun _ => undef) vs hsto (by simp [hr.1]) (fun i c v hc hv => by
    rw [List.getElem?_map] at hc
    obtain ⟨x, hx, rfl⟩ := Option.map_eq_some_iff.1 hc
    exact .d _ _ (hr.2 i x v hx hv)) (lts_of fun i c hc => by
      rw [List.getElem?_map] at hc
      obtain ⟨x, hx, rfl⟩ := Option.map_eq_some_iff.1 hc
      trivial)
  obtain ⟨b, hb⟩ := Option.isSome_iff_exists.1 hbody
  have hcf : (callFunc f vs.toArray).run P W = .ok (.enter f vs.toArray) W := by
    simp only [beq_eq_false_iff_ne, ne_eq] at hname
    simp [callFunc, hfn, hb, hname]
  unfold Does at hd
  rw [hcf] at hd
  refine hd.mono ?_
  rintro e W' ⟨v, rfl, r, o', nk', S', γ', ⟨rfl, rfl, rfl⟩, hs, ht, hsr, hl⟩
  refine ⟨?_, ht.os, ht.tape, ht.output, ht.size, fun k hk => ht.kept k hk ?_⟩
  · cases hsr with
    | d _ _ hrd => cases hrd; rfl
  · rintro ⟨t, y, hy, _⟩
    cases hy
end
end Go.Proofs.YtpkcbdhjnnnkbaaGreat.Abs

set_option linter.unusedVariables false
set_option linter.unusedSimpArgs false
set_option maxRecDepth 10000
namespace Go.Proofs.YtpkcbdhjnnnkbaaGreat.Abs
open Go
section
variable {H : Type} {enc : TypeId × Value → H} {w : World} {base fuel : Nat} {spare : Nat → Bool} {held : Bool} {cs : List Value} {x : DataW H × List MemPlace}
theorem cells_of {P : Program} {t : TypeId} {i : TI} (h : TOk P t i) : P.cellsOf t = i.sz := by
  have := h.s
  unfold Program.cellsOf
  cases hq : P.info? t with
  | none => rw [hq] at this; cases this
  | some q => rw [hq] at this; simp at this; simp [this.1]
def AStr (s : Str) (d : DataW H) : Prop := d = .lit (.string s)
def AVal (v : Val) (d : DataW H) : Prop := rngV v ∧ szV v ≤ Rows.uptoBulk d
def ADlt (v : Dlt) (d : DataW H) : Prop := rngV v.value ∧ szV v.value + szN v.path ≤ Rows.uptoBulk d
theorem all2_cons {α : Type} {A : α → DataW H → Prop} {a : α} {l : List α} {es : List (DataW H)} (h : All2 A (a :: l) es) : ∃ y ys, es = y :: ys ∧ A a y ∧ All2 A l ys := by
  obtain ⟨h1, h2⟩ := h
  cases es with
  | nil => simp at h1
  | cons y ys => exact ⟨y, ys, rfl, h2 0 a y rfl rfl, by simpa using h1, fun i b z hb hz => h2 (i + 1) b z (by simpa using hb) (by simpa using hz)⟩
theorem szN_bulk : ∀ {l : List Str} {es : List (DataW H)}, All2 AStr l es → szN l ≤ Rows.uptoBulkAll es
  | [], es, _ => by simp [szN]
  | s :: l, es, h => by
    obtain ⟨y, ys, rfl, h1, h2⟩ := all2_cons h
    have := szN_bulk h2
    unfold AStr at h1
    subst h1
    simp only [szN, Rows.uptoBulkAll, Rows.uptoBulk]; omega
theorem szVs_bulk : ∀ {l : List Val} {es : List (DataW H)}, All2 AVal l es → rngVs l ∧ szVs l ≤ Rows.uptoBulkAll es
  | [], es, _ => by simp [szVs, rngVs]
  | s :: l, es, h => by
    obtain ⟨y, ys, rfl, h1, h2⟩ := all2_cons h
    have := szVs_bulk h2
    simp only [szVs, rngVs, Rows.uptoBulkAll]
    exact ⟨⟨h1.1, this.1⟩, by have := h1.2; omega⟩
theorem bulk_sl {α : Type} {A : α → DataW H → Prop} {l : List α} {d : DataW H} {n : Nat} (h : SlD A l d) (h0 : l = [] → n = 0) (h1 : ∀ es, All2 A l es → n ≤ Rows.uptoBulkAll es) : n + 1 ≤ Rows.uptoBulk d := by
  rcases h with ⟨rfl, h⟩ | ⟨es, sp, rfl, h⟩
  · have := h0 h
    simp [Rows.uptoBulk, this]
  · have := h1 es h
    simp only [Rows.uptoBulk]; omega
theorem one_le (d : DataW H) : 1 ≤ Rows.uptoBulk d := by
  cases d with
  | lit l => cases l <;> simp [Rows.uptoBulk]
  | nil => simp [Rows.uptoBulk]
  | ptr d => simp [Rows.uptoBulk]
  | slice elems spare => simp [Rows.uptoBulk]
  | agg parts => simp [Rows.uptoBulk]
  | iface t d => simp [Rows.uptoBulk]
  | map entries => simp [Rows.uptoBulk]
  | held h => simp [Rows.uptoBulk]
theorem mem_bulk {d : DataW H} {l : List (DataW H)} (h : d ∈ l) : Rows.uptoBulk d ≤ Rows.uptoBulkAll l := by
  induction l with
  | nil => cases h
  | cons x r ih =>
    simp only [Rows.uptoBulkAll]
    cases List.mem_cons.1 h with
    | inl e => subst e; omega
    | inr e => have := ih e; omega

theorem open_strs (h : DataW.trod enc Tryz.prog w base spare held fuel 22 cs = some x) : ∃ l : List Str, RdC w [.sl 1 (l.map .str)] cs ∧ SlD AStr l x.1 :=
  rd_slice (z := 1) D.str AStr ((tabOk 22 _ th22).slice rfl) (cells_of (tabOk 9 _ th9)) (by decide) (fun _ => rfl) (fun _ => trivial) h fun n cs x _ h => by
    obtain ⟨s, h1, h2⟩ := rd_str ((tabOk 9 _ th9).str rfl) h
    exact ⟨s, h1, h2⟩
theorem rngVs_mem {l : List Val} (h : rngVs l) : ∀ v ∈ l, rngV v := by
  induction l with
  | nil => simp
  | cons a l ih =>
    simp only [rngVs] at h
    intro v hv
    rcases List.mem_cons.1 hv with rfl | hv
    · exact h.1
    · exact ih h.2 v hv
theorem open_val : ∀ (fuel : Nat) (cs : List Value) (x : DataW H × List MemPlace), DataW.trod enc Tryz.prog w base spare held fuel 27 cs = some x → ∃ v : Val, RdC w (valCells v) cs ∧ AVal v x.1 := by
  intro fuel
  induction fuel using Nat.strongRecOn with
  | _ fuel ih =>
    intro cs x h
    obtain ⟨ys, n, hn, hx, hl, hyl, hf⟩ := rd_struct (tabOk 27 _ th27) rfl h
    match ys, hyl with
    | [y0, y1, y2, y3, y4], _ =>
      have c1 := cells_of (tabOk 3 _ th3)
      have c9 := cells_of (tabOk 9 _ th9)
      have c25 := cells_of (tabOk 25 _ th25)
      have c22 := cells_of (tabOk 22 _ th22)
      have c27 := cells_of (tabOk 27 _ th27)
      have f0 := hf 0 (0, 3) rfl
      have f1 := hf 1 (1, 3) rfl
      have f2 := hf 2 (2, 9) rfl
      have f3 := hf 3 (3, 25) rfl
      have f4 := hf 4 (4, 22) rfl
      rw [c1] at f0 f1
      rw [c9] at f2
      rw [c25] at f3
      rw [c22] at f4
      rw [c27] at hl
      obtain ⟨k, k1, k2, k3⟩ := rd_int ((tabOk 3 _ th3).int rfl) (x := y0) f0
      obtain ⟨i, i1, i2, i3⟩ := rd_int ((tabOk 3 _ th3).int rfl) (x := y1) f1
      obtain ⟨s, s1, s2⟩ := rd_str ((tabOk 9 _ th9).str rfl) (x := y2) f2
      obtain ⟨vs, v1, v2⟩ := rd_slice (z := 5) encV AVal ((tabOk 25 _ th25).slice rfl) c27 (by decide) (fun a => by rw [encV_eq]; rfl) (fun a => by rw [encV_eq]; rfl) (x := y3) f3 fun m cs x hm h => by
        obtain ⟨v, h1, h2⟩ := ih m (by omega) cs x h
        exact ⟨v, by rw [encV_eq]; exact h1, h2⟩
      obtain ⟨ns, n1, n2⟩ := open_strs (x := y4) f4
      refine ⟨.mk k i s vs ns, ?_, ?_⟩
      · have := rdC_cat (cs := cs) (o := 0) (n := 1) k1 rfl (rdC_cat (n := 1) i1 rfl (rdC_cat (n := 1) s1 rfl (rdC_cat (n := 1) v1 rfl (rdC_cat (n := 1) n1 rfl (rdC_nil hl)))))
        simpa [valCells, Val.kind, Val.int, Val.text, Val.items, Val.names, encVs_map] using this
      · have b3 : rngVs vs ∧ szVs vs + 1 ≤ Rows.uptoBulk y3.1 := by
          refine ⟨?_, bulk_sl v2 (fun h => by rw [h]; rfl) fun es h => (szVs_bulk h).2⟩
          rcases v2 with ⟨_, rfl⟩ | ⟨es, sp, _, h⟩
          · trivial
          · exact (szVs_bulk h).1
        have b4 := bulk_sl n2 (n := szN ns) (fun h => by rw [h]; rfl) fun es h => szN_bulk h
        refine ⟨⟨wf_i64 i3, b3.1⟩, ?_⟩
        rw [hx]
        simp only [List.map_cons, List.map_nil, Rows.uptoBulk, Rows.uptoBulkAll, k2, i2, s2, szV]
        omega
theorem open_dlt (h : DataW.trod enc Tryz.prog w base spare held fuel 83 cs = some x) : ∃ d : Dlt, RdC w (encD d).cl cs ∧ ADlt d x.1 := by
  obtain ⟨ys, n, hn, hx, hl, hyl, hf⟩ := rd_struct (tabOk 83 _ th83) rfl h
  match ys, hyl with
  | [y0, y1, y2, y3], _ =>
    have f0 := hf 0 (0, 3) rfl
    have f1 := hf 1 (1, 22) rfl
    have f2 := hf 2 (2, 27) rfl
    have f3 := hf 3 (7, 3) rfl
    rw [cells_of (tabOk 3 _ th3)] at f0 f3
    rw [cells_of (tabOk 22 _ th22)] at f1
    rw [cells_of (tabOk 27 _ th27)] at f2
    rw [cells_of (tabOk 83 _ th83)] at hl
    obtain ⟨k, k1, k2, k3⟩ := rd_int ((tabOk 3 _ th3).int rfl) (x := y0) f0
    obtain ⟨p, p1, p2⟩ := open_strs (x := y1) f1
    obtain ⟨v, v1, v2⟩ := open_val n _ y2 f2
    obtain ⟨m, m1, m2, m3⟩ := rd_int ((tabOk 3 _ th3).int rfl) (x := y3) f3
    refine ⟨⟨k, p, v, m⟩, ?_, v2.1, ?_⟩
    · have := rdC_cat (cs := cs) (o := 0) (n := 1) k1 rfl (rdC_cat (n := 1) p1 rfl (rdC_cat (n := 5) v1 rfl (rdC_cat (n := 1) m1 rfl (rdC_nil hl))))
      simpa [encD, D.cl, valCells] using this
    · have b1 := bulk_sl p2 (n := szN p) (fun h => by rw [h]; rfl) fun es h => szN_bulk h
      have b2 := v2.2
      rw [hx]
      simp only [List.map_cons, List.map_nil, Rows.uptoBulk, Rows.uptoBulkAll, k2, m2]
      omega
theorem open_dlts (h : DataW.trod enc Tryz.prog w base spare held fuel 28 cs = some x) : ∃ l : List Dlt, RdC w [.sl 8 (l.map encD)] cs ∧ SlD ADlt l x.1 :=
  rd_slice (z := 8) encD ADlt ((tabOk 28 _ th28).slice rfl) (cells_of (tabOk 83 _ th83)) (by decide) (fun _ => rfl) (fun _ => rfl) h fun n cs x _ h => open_dlt h
/-- What a list of changes holds. -/
def szDs : List Dlt → Nat
  | [] => 0
  | d :: r => szV d.value + szN d.path + szDs r
theorem szDs_bulk : ∀ {l : List Dlt} {es : List (DataW H)}, All2 ADlt l es → szDs l ≤ Rows.uptoBulkAll es ∧ ∀ d ∈ l, rngV d.value
  | [], es, _ => by simp [szDs]
  | s :: l, es, h => by
    obtain ⟨y, ys, rfl, h1, h2⟩ := all2_cons h
    have := szDs_bulk h2
    simp only [szDs, Rows.uptoBulkAll]
    refine ⟨by have := h1.2; omega, fun d hd => ?_⟩
    rcases List.mem_cons.1 hd with rfl | hd
    · exact h1.1
    · exact this.2 d hd
theorem szDs_mem {l : List Dlt} {d : Dlt} (h : d ∈ l) : szV d.value + szN d.path ≤ szDs l := by
  induction l with
  | nil => cases h
  | cons a l ih =>
    simp only [szDs]
    rcases List.mem_cons.1 h with rfl | h
    · omega
    · have := ih h; omega
theorem dlts_all {l : List Dlt} {d : DataW H} (h : SlD ADlt l d) : szDs l + 1 ≤ Rows.uptoBulk d ∧ ∀ x ∈ l, rngV x.value := by
  refine ⟨bulk_sl h (fun h => by rw [h]; rfl) fun es h => (szDs_bulk h).1, ?_⟩
  rcases h with ⟨_, rfl⟩ | ⟨es, sp, _, h⟩
  · simp
  · exact (szDs_bulk h).2
def I64 (n : Int) : Prop := -9223372036854775808 ≤ n ∧ n ≤ 9223372036854775807
structure AEtr (e : Etr) (d : DataW H) : Prop where
  rt : I64 e.term
  rk : I64 e.kind
  rs : I64 e.session
  rn : I64 e.number
  ri : rngV e.id
  rd : rngV e.doc
  rl : ∀ x ∈ e.deltas, rngV x.value
  sz : szV e.id + szV e.doc + szDs e.deltas + e.coll.length + e.to.length + 1 ≤ Rows.uptoBulk d
theorem encE_cl (e : Etr) : (encE e).cl = [.int .i64 e.term, .int .i64 e.kind, .str e.coll, .str e.to] ++ valCells e.id ++ valCells e.doc ++ [.sl 8 (e.deltas.map encD), .int .i64 e.session, .int .i64 e.number] := rfl
theorem open_etr (h : DataW.trod enc Tryz.prog w base spare held fuel 30 cs = some x) : ∃ e : Etr, RdC w (encE e).cl cs ∧ AEtr e x.1 := by
  obtain ⟨ys, n, hn, hx, hl, hyl, hf⟩ := rd_struct (tabOk 30 _ th30) rfl h
  match ys, hyl with
  | [y0, y1, y2, y3, y4, y5, y6, y7, y8], _ =>
    have f0 := hf 0 (0, 3) rfl
    have f1 := hf 1 (1, 3) rfl
    have f2 := hf 2 (2, 9) rfl
    have f3 := hf 3 (3, 9) rfl
    have f4 := hf 4 (4, 27) rfl
    have f5 := hf 5 (9, 27) rfl
    have f6 := hf 6 (14, 28) rfl
    have f7 := hf 7 (15, 3) rfl
    have f8 := hf 8 (16, 3) rfl
    rw [cells_of (tabOk 3 _ th3)] at f0 f1 f7 f8
    rw [cells_of (tabOk 9 _ th9)] at f2 f3
    rw [cells_of (tabOk 27 _ th27)] at f4 f5
    rw [cells_of (tabOk 28 _ th28)] at f6
    rw [cells_of (tabOk 30 _ th30)] at hl
    obtain ⟨a, a1, a2, a3⟩ := rd_int ((tabOk 3 _ th3).int rfl) (x := y0) f0
    obtain ⟨b, b1, b2, b3⟩ := rd_int ((tabOk 3 _ th3).int rfl) (x := y1) f1
    obtain ⟨c, c1, c2⟩ := rd_str ((tabOk 9 _ th9).str rfl) (x := y2) f2
    obtain ⟨t, t1, t2⟩ := rd_str ((tabOk 9 _ th9).str rfl) (x := y3) f3
    obtain ⟨i, i1, i2⟩ := open_val n _ y4 f4
    obtain ⟨d, d1, d2⟩ := open_val n _ y5 f5
    obtain ⟨l, l1, l2⟩ := open_dlts (x := y6) f6
    obtain ⟨s, s1, s2, s3⟩ := rd_int ((tabOk 3 _ th3).int rfl) (x := y7) f7
    obtain ⟨m, m1, m2, m3⟩ := rd_int ((tabOk 3 _ th3).int rfl) (x := y8) f8
    have hl2 := dlts_all l2
    refine ⟨⟨a, b, c, t, i, d, l, s, m⟩, ?_, ⟨wf_i64 a3, wf_i64 b3, wf_i64 s3, wf_i64 m3, i2.1, d2.1, hl2.2, ?_⟩⟩
    · have := rdC_cat (cs := cs) (o := 0) (n := 1) a1 rfl (rdC_cat (n := 1) b1 rfl (rdC_cat (n := 1) c1 rfl (rdC_cat (n := 1) t1 rfl (rdC_cat (n := 5) i1 rfl (rdC_cat (n := 5) d1 rfl (rdC_cat (n := 1) l1 rfl (rdC_cat (n := 1) s1 rfl (rdC_cat (n := 1) m1 rfl (rdC_nil hl)))))))))
      simpa [encE_cl] using this
    · rw [hx]
      have e1 := i2.2
      have e2 := d2.2
      simp only [List.map_cons, List.map_nil, Rows.uptoBulk, Rows.uptoBulkAll, a2, b2, c2, t2, s2, m2]
      omega
theorem open_etrs (h : DataW.trod enc Tryz.prog w base spare held fuel 34 cs = some x) : ∃ l : List Etr, RdC w [.sl 17 (l.map encE)] cs ∧ SlD AEtr l x.1 :=
  rd_slice (z := 17) encE AEtr ((tabOk 34 _ th34).slice rfl) (cells_of (tabOk 30 _ th30)) (by decide) (fun _ => rfl) (fun _ => rfl) h fun n cs x _ h => open_etr h
structure AFlt (f : Flt) (d : DataW H) : Prop where
  rk : I64 f.kinds
  sz : f.coll.length + szN f.path ≤ Rows.uptoBulk d
theorem open_flt (h : DataW.trod enc Tryz.prog w base spare held fuel 24 cs = some x) : ∃ f : Flt, RdC w (encF f).cl cs ∧ AFlt f x.1 := by
  obtain ⟨ys, n, hn, hx, hl, hyl, hf⟩ := rd_struct (tabOk 24 _ th24) rfl h
  match ys, hyl with
  | [y0, y1, y2], _ =>
    have f0 := hf 0 (0, 9) rfl
    have f1 := hf 1 (1, 22) rfl
    have f2 := hf 2 (2, 3) rfl
    rw [cells_of (tabOk 9 _ th9)] at f0
    rw [cells_of (tabOk 22 _ th22)] at f1
    rw [cells_of (tabOk 3 _ th3)] at f2
    rw [cells_of (tabOk 24 _ th24)] at hl
    obtain ⟨c, c1, c2⟩ := rd_str ((tabOk 9 _ th9).str rfl) (x := y0) f0
    obtain ⟨p, p1, p2⟩ := open_strs (x := y1) f1
    obtain ⟨k, k1, k2, k3⟩ := rd_int ((tabOk 3 _ th3).int rfl) (x := y2) f2
    refine ⟨⟨c, p, k⟩, ?_, wf_i64 k3, ?_⟩
    · have := rdC_cat (cs := cs) (o := 0) (n := 1) c1 rfl (rdC_cat (n := 1) p1 rfl (rdC_cat (n := 1) k1 rfl (rdC_nil hl)))
      simpa [encF, D.cl] using this
    · have b1 := bulk_sl p2 (n := szN p) (fun h => by rw [h]; rfl) fun es h => szN_bulk h
      rw [hx]
      simp only [List.map_cons, List.map_nil, Rows.uptoBulk, Rows.uptoBulkAll, c2, k2]
      omega
theorem okE_of {e : Etr} {d : DataW H} (h : AEtr e d) (hb : Rows.uptoBulk d ≤ 1048576) : OkE e := by
  have hs := h.sz
  refine ⟨h.ri, by omega, h.rd, by omega, fun _ x hx => ⟨h.rl x hx, ?_⟩⟩
  have := szDs_mem hx
  omega
theorem okEd_of {e : Etr} {d : DataW H} (h : AEtr e d) (hb : Rows.uptoBulk d ≤ 1048576) : ∀ x ∈ e.deltas, szV x.value ≤ 1099511627776 := fun x hx => by
  have hs := h.sz
  have := szDs_mem hx
  omega
end
end Go.Proofs.YtpkcbdhjnnnkbaaGreat.Abs
