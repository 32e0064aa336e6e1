/- Part 4 of the proof that FilterKinds: called with any kinds and any entry that hold together at most 1048576 values and letters, the law answers true, and both read afterwards as they read before. -/
import Derived.Test.YtpkcbdhjnnnkbaaGreatMFilterKinds3
import Derived.Test.YtpkcbdhjnnnkbaaGreatMFilterKinds2
import Derived.Scope
import Derived.Laws.RangeAny
import Derived.Laws.RangeString
/- Steps of drawn regions that write; more contracts of functions. -/
set_option linter.unusedVariables false
set_option linter.unusedSimpArgs false
namespace Go.Proofs.YtpkcbdhjnnnkbaaGreat.Abs
open Go

def pho (l : List Ob) : Nat → Ob := fun p => (l[p]?).getD (fun _ => none, 0)
section
variable {P : Program} {Θ : Tab} {n k0 : Nat} {Q : Exit → St → Prop}
theorem WP.dr1 {sl : Nat → SV} {o : Nat → Option AO} {nk : Nat} {id : Nat} {l : List Oper} (kd : List Kd) (wr : List Nat) (n1 : Nat) (hΘ : TabOk P Θ) (hm : P.follows .mixedOrders = true) (hd : (l.all fun o => dstOk n o.dst) = true) (hf : flowOk l.toArray = true) (hp : phOk l kd wr = true)
    (h : ∃ o1 : Nat → Option AO, eOps P Θ l.toArray (Q .normal) (pho [(o, nk), (o1, n1)]) wr.length l kd sl) : WP P n k0 (.region id l.toArray true) ⟨sl, o, nk⟩ Q := by
  obtain ⟨o1, h⟩ := h
  exact WP.drawnW (ops := l.toArray) hΘ hm kd wr _ (by simpa using hd) hf (by simpa using hp) (by simpa using h)
theorem WP.dr2 {sl : Nat → SV} {o : Nat → Option AO} {nk : Nat} {id : Nat} {l : List Oper} (kd : List Kd) (wr : List Nat) (n1 n2 : Nat) (hΘ : TabOk P Θ) (hm : P.follows .mixedOrders = true) (hd : (l.all fun o => dstOk n o.dst) = true) (hf : flowOk l.toArray = true) (hp : phOk l kd wr = true)
    (h : ∃ o1 o2 : Nat → Option AO, eOps P Θ l.toArray (Q .normal) (pho [(o, nk), (o1, n1), (o2, n2)]) wr.length l kd sl) : WP P n k0 (.region id l.toArray true) ⟨sl, o, nk⟩ Q := by
  obtain ⟨o1, o2, h⟩ := h
  exact WP.drawnW (ops := l.toArray) hΘ hm kd wr _ (by simpa using hd) hf (by simpa using hp) (by simpa using h)
theorem WP.dr3 {sl : Nat → SV} {o : Nat → Option AO} {nk : Nat} {id : Nat} {l : List Oper} (kd : List Kd) (wr : List Nat) (n1 n2 n3 : Nat) (hΘ : TabOk P Θ) (hm : P.follows .mixedOrders = true) (hd : (l.all fun o => dstOk n o.dst) = true) (hf : flowOk l.toArray = true) (hp : phOk l kd wr = true)
    (h : ∃ o1 o2 o3 : Nat → Option AO, eOps P Θ l.toArray (Q .normal) (pho [(o, nk), (o1, n1), (o2, n2), (o3, n3)]) wr.length l kd sl) : WP P n k0 (.region id l.toArray true) ⟨sl, o, nk⟩ Q := by
  obtain ⟨o1, o2, o3, h⟩ := h
  exact WP.drawnW (ops := l.toArray) hΘ hm kd wr _ (by simpa using hd) hf (by simpa using hp) (by simpa using h)
theorem WP.dr4 {sl : Nat → SV} {o : Nat → Option AO} {nk : Nat} {id : Nat} {l : List Oper} (kd : List Kd) (wr : List Nat) (n1 n2 n3 n4 : Nat) (hΘ : TabOk P Θ) (hm : P.follows .mixedOrders = true) (hd : (l.all fun o => dstOk n o.dst) = true) (hf : flowOk l.toArray = true) (hp : phOk l kd wr = true)
    (h : ∃ o1 o2 o3 o4 : Nat → Option AO, eOps P Θ l.toArray (Q .normal) (pho [(o, nk), (o1, n1), (o2, n2), (o3, n3), (o4, n4)]) wr.length l kd sl) : WP P n k0 (.region id l.toArray true) ⟨sl, o, nk⟩ Q := by
  obtain ⟨o1, o2, o3, o4, h⟩ := h
  exact WP.drawnW (ops := l.toArray) hΘ hm kd wr _ (by simpa using hd) hf (by simpa using hp) (by simpa using h)
theorem WP.dr5 {sl : Nat → SV} {o : Nat → Option AO} {nk : Nat} {id : Nat} {l : List Oper} (kd : List Kd) (wr : List Nat) (n1 n2 n3 n4 n5 : Nat) (hΘ : TabOk P Θ) (hm : P.follows .mixedOrders = true) (hd : (l.all fun o => dstOk n o.dst) = true) (hf : flowOk l.toArray = true) (hp : phOk l kd wr = true)
    (h : ∃ o1 o2 o3 o4 o5 : Nat → Option AO, eOps P Θ l.toArray (Q .normal) (pho [(o, nk), (o1, n1), (o2, n2), (o3, n3), (o4, n4), (o5, n5)]) wr.length l kd sl) : WP P n k0 (.region id l.toArray true) ⟨sl, o, nk⟩ Q := by
  obtain ⟨o1, o2, o3, o4, o5, h⟩ := h
  exact WP.drawnW (ops := l.toArray) hΘ hm kd wr _ (by simpa using hd) hf (by simpa using hp) (by simpa using h)
theorem WP.dr6 {sl : Nat → SV} {o : Nat → Option AO} {nk : Nat} {id : Nat} {l : List Oper} (kd : List Kd) (wr : List Nat) (n1 n2 n3 n4 n5 n6 : Nat) (hΘ : TabOk P Θ) (hm : P.follows .mixedOrders = true) (hd : (l.all fun o => dstOk n o.dst) = true) (hf : flowOk l.toArray = true) (hp : phOk l kd wr = true)
    (h : ∃ o1 o2 o3 o4 o5 o6 : Nat → Option AO, eOps P Θ l.toArray (Q .normal) (pho [(o, nk), (o1, n1), (o2, n2), (o3, n3), (o4, n4), (o5, n5), (o6, n6)]) wr.length l kd sl) : WP P n k0 (.region id l.toArray true) ⟨sl, o, nk⟩ Q := by
  obtain ⟨o1, o2, o3, o4, o5, o6, h⟩ := h
  exact WP.drawnW (ops := l.toArray) hΘ hm kd wr _ (by simpa using hd) hf (by simpa using hp) (by simpa using h)
theorem WP.dr7 {sl : Nat → SV} {o : Nat → Option AO} {nk : Nat} {id : Nat} {l : List Oper} (kd : List Kd) (wr : List Nat) (n1 n2 n3 n4 n5 n6 n7 : Nat) (hΘ : TabOk P Θ) (hm : P.follows .mixedOrders = true) (hd : (l.all fun o => dstOk n o.dst) = true) (hf : flowOk l.toArray = true) (hp : phOk l kd wr = true)
    (h : ∃ o1 o2 o3 o4 o5 o6 o7 : Nat → Option AO, eOps P Θ l.toArray (Q .normal) (pho [(o, nk), (o1, n1), (o2, n2), (o3, n3), (o4, n4), (o5, n5), (o6, n6), (o7, n7)]) wr.length l kd sl) : WP P n k0 (.region id l.toArray true) ⟨sl, o, nk⟩ Q := by
  obtain ⟨o1, o2, o3, o4, o5, o6, o7, h⟩ := h
  exact WP.drawnW (ops := l.toArray) hΘ hm kd wr _ (by simpa using hd) hf (by simpa using hp) (by simpa using h)
theorem WP.dr8 {sl : Nat → SV} {o : Nat → Option AO} {nk : Nat} {id : Nat} {l : List Oper} (kd : List Kd) (wr : List Nat) (n1 n2 n3 n4 n5 n6 n7 n8 : Nat) (hΘ : TabOk P Θ) (hm : P.follows .mixedOrders = true) (hd : (l.all fun o => dstOk n o.dst) = true) (hf : flowOk l.toArray = true) (hp : phOk l kd wr = true)
    (h : ∃ o1 o2 o3 o4 o5 o6 o7 o8 : Nat → Option AO, eOps P Θ l.toArray (Q .normal) (pho [(o, nk), (o1, n1), (o2, n2), (o3, n3), (o4, n4), (o5, n5), (o6, n6), (o7, n7), (o8, n8)]) wr.length l kd sl) : WP P n k0 (.region id l.toArray true) ⟨sl, o, nk⟩ Q := by
  obtain ⟨o1, o2, o3, o4, o5, o6, o7, o8, h⟩ := h
  exact WP.drawnW (ops := l.toArray) hΘ hm kd wr _ (by simpa using hd) hf (by simpa using hp) (by simpa using h)
theorem WP.dr9 {sl : Nat → SV} {o : Nat → Option AO} {nk : Nat} {id : Nat} {l : List Oper} (kd : List Kd) (wr : List Nat) (n1 n2 n3 n4 n5 n6 n7 n8 n9 : Nat) (hΘ : TabOk P Θ) (hm : P.follows .mixedOrders = true) (hd : (l.all fun o => dstOk n o.dst) = true) (hf : flowOk l.toArray = true) (hp : phOk l kd wr = true)
    (h : ∃ o1 o2 o3 o4 o5 o6 o7 o8 o9 : Nat → Option AO, eOps P Θ l.toArray (Q .normal) (pho [(o, nk), (o1, n1), (o2, n2), (o3, n3), (o4, n4), (o5, n5), (o6, n6), (o7, n7), (o8, n8), (o9, n9)]) wr.length l kd sl) : WP P n k0 (.region id l.toArray true) ⟨sl, o, nk⟩ Q := by
  obtain ⟨o1, o2, o3, o4, o5, o6, o7, o8, o9, h⟩ := h
  exact WP.drawnW (ops := l.toArray) hΘ hm kd wr _ (by simpa using hd) hf (by simpa using hp) (by simpa using h)
theorem WP.dr10 {sl : Nat → SV} {o : Nat → Option AO} {nk : Nat} {id : Nat} {l : List Oper} (kd : List Kd) (wr : List Nat) (n1 n2 n3 n4 n5 n6 n7 n8 n9 n10 : Nat) (hΘ : TabOk P Θ) (hm : P.follows .mixedOrders = true) (hd : (l.all fun o => dstOk n o.dst) = true) (hf : flowOk l.toArray = true) (hp : phOk l kd wr = true)
    (h : ∃ o1 o2 o3 o4 o5 o6 o7 o8 o9 o10 : Nat → Option AO, eOps P Θ l.toArray (Q .normal) (pho [(o, nk), (o1, n1), (o2, n2), (o3, n3), (o4, n4), (o5, n5), (o6, n6), (o7, n7), (o8, n8), (o9, n9), (o10, n10)]) wr.length l kd sl) : WP P n k0 (.region id l.toArray true) ⟨sl, o, nk⟩ Q := by
  obtain ⟨o1, o2, o3, o4, o5, o6, o7, o8, o9, o10, h⟩ := h
  exact WP.drawnW (ops := l.toArray) hΘ hm kd wr _ (by simpa using hd) hf (by simpa using hp) (by simpa using h)
theorem WP.dr11 {sl : Nat → SV} {o : Nat → Option AO} {nk : Nat} {id : Nat} {l : List Oper} (kd : List Kd) (wr : List Nat) (n1 n2 n3 n4 n5 n6 n7 n8 n9 n10 n11 : Nat) (hΘ : TabOk P Θ) (hm : P.follows .mixedOrders = true) (hd : (l.all fun o => dstOk n o.dst) = true) (hf : flowOk l.toArray = true) (hp : phOk l kd wr = true)
    (h : ∃ o1 o2 o3 o4 o5 o6 o7 o8 o9 o10 o11 : Nat → Option AO, eOps P Θ l.toArray (Q .normal) (pho [(o, nk), (o1, n1), (o2, n2), (o3, n3), (o4, n4), (o5, n5), (o6, n6), (o7, n7), (o8, n8), (o9, n9), (o10, n10), (o11, n11)]) wr.length l kd sl) : WP P n k0 (.region id l.toArray true) ⟨sl, o, nk⟩ Q := by
  obtain ⟨o1, o2, o3, o4, o5, o6, o7, o8, o9, o10, o11, h⟩ := h
  exact WP.drawnW (ops := l.toArray) hΘ hm kd wr _ (by simpa using hd) hf (by simpa using hp) (by simpa using h)
theorem WP.dr12 {sl : Nat → SV} {o : Nat → Option AO} {nk : Nat} {id : Nat} {l : List Oper} (kd : List Kd) (wr : List Nat) (n1 n2 n3 n4 n5 n6 n7 n8 n9 n10 n11 n12 : Nat) (hΘ : TabOk P Θ) (hm : P.follows .mixedOrders = true) (hd : (l.all fun o => dstOk n o.dst) = true) (hf : flowOk l.toArray = true) (hp : phOk l kd wr = true)
    (h : ∃ o1 o2 o3 o4 o5 o6 o7 o8 o9 o10 o11 o12 : Nat → Option AO, eOps P Θ l.toArray (Q .normal) (pho [(o, nk), (o1, n1), (o2, n2), (o3, n3), (o4, n4), (o5, n5), (o6, n6), (o7, n7), (o8, n8), (o9, n9), (o10, n10), (o11, n11), (o12, n12)]) wr.length l kd sl) : WP P n k0 (.region id l.toArray true) ⟨sl, o, nk⟩ Q := by
  obtain ⟨o1, o2, o3, o4, o5, o6, o7, o8, o9, o10, o11, o12, h⟩ := h
  exact WP.drawnW (ops := l.toArray) hΘ hm kd wr _ (by simpa using hd) hf (by simpa using hp) (by simpa using h)
end
/-- Within a scope whose labels are not jumped to. -/
def Qsc (Q : Exit → St → Prop) : Exit → St → Prop
  | .goto _, _ => False
  | e, s => Q e s
theorem WP.scope {P : Program} {n k0 : Nat} {s : St} {Q : Exit → St → Prop} {c : Code} (h : WP P n k0 c s (Qsc Q)) : WP P n k0 (.scope c) s Q := fun E a w h1 h2 h3 => by
  refine wp_scope_straight (Go.wp_mono (h E a w h1 h2 h3) ?_)
  rintro e a' w' ⟨s', hr, q⟩
  cases e <;> first | exact q.elim | exact ⟨s', hr, q⟩
section
variable {P : Program} {Θ : Tab} {ops : Array Oper} {K : St → Prop} {r : List Oper} {sl : Nat → SV} {d ty j lo m nk nk' : Nat} {o o' : Nat → Option AO} {op : Op} {pos : String} {af : Array Edge} {want c : Bool} {v : SV} {L : List Ob} {ks : List Kd}
theorem pho_at {p : Nat} (h : L[p]? = some (o, nk)) : pho L p = (o, nk) := by simp [pho, h]
theorem e_step (h0 : L[lo]? = some (o, nk)) (h : vOp P Θ op ⟨sl, o, nk⟩ fun v' o' nk' => v' = v ∧ o' = o ∧ nk' = nk) (k : eOps P Θ ops K (pho L) m r ks (upd sl d v)) :
    eOps P Θ ops K (pho L) m ({ dst := some d, op := op, type := ty, pos := pos, after := af, guard := none } :: r) (.q lo lo :: ks) sl := by
  refine ⟨v, ?_, k⟩
  show allP (lo - lo) _ lo
  rw [Nat.sub_self]
  simp only [allP, pho_at h0]; exact h
theorem e_step2 (h0 : L[lo]? = some (o, nk)) (h1 : L[lo + 1]? = some (o', nk')) (h : vOp P Θ op ⟨sl, o, nk⟩ fun v' o'' nk'' => v' = v ∧ o'' = o ∧ nk'' = nk) (h2 : vOp P Θ op ⟨sl, o', nk'⟩ fun v' o'' nk'' => v' = v ∧ o'' = o' ∧ nk'' = nk') (k : eOps P Θ ops K (pho L) m r ks (upd sl d v)) :
    eOps P Θ ops K (pho L) m ({ dst := some d, op := op, type := ty, pos := pos, after := af, guard := none } :: r) (.q lo (lo + 1) :: ks) sl := by
  refine ⟨v, ?_, k⟩
  show allP (lo + 1 - lo) _ lo
  rw [Nat.add_sub_cancel_left]
  simp only [allP, pho_at h0, pho_at h1]; exact ⟨h, h2⟩
theorem e_step0 (h0 : L[lo]? = some (o, nk)) (h : vOp P Θ op ⟨sl, o, nk⟩ fun v' o' nk' => v' = v ∧ o' = o ∧ nk' = nk) (k : eOps P Θ ops K (pho L) m r ks sl) :
    eOps P Θ ops K (pho L) m ({ dst := none, op := op, type := ty, pos := pos, after := af, guard := none } :: r) (.q lo lo :: ks) sl := by
  refine ⟨v, ?_, k⟩
  show allP (lo - lo) _ lo
  rw [Nat.sub_self]
  simp only [allP, pho_at h0]; exact h
theorem e_guard (h0 : L[lo]? = some (o, nk)) (hb : GC (gsl ops ⟨sl, o, nk⟩ j) want c) (h : c = true → vOp P Θ op ⟨sl, o, nk⟩ fun v' o' nk' => v' = v ∧ o' = o ∧ nk' = nk) (k : eOps P Θ ops K (pho L) m r ks (upd sl d (cnd c v))) :
    eOps P Θ ops K (pho L) m ({ dst := some d, op := op, type := ty, pos := pos, after := af, guard := some (j, want) } :: r) (.q lo lo :: ks) sl := by
  refine ⟨cnd c v, ?_, k⟩
  show allP (lo - lo) _ lo
  rw [Nat.sub_self]
  simp only [allP, pho_at h0]; exact ⟨c, v, hb, h, rfl⟩
theorem e_w (h0 : L[j]? = some (o, nk)) (h1 : L[j + 1]? = some (o', nk')) (h : vOp P Θ op ⟨sl, o, nk⟩ fun v' o'' nk'' => v' = v ∧ o'' = o' ∧ nk'' = nk') (k : eOps P Θ ops K (pho L) m r ks (upd sl d v)) :
    eOps P Θ ops K (pho L) m ({ dst := some d, op := op, type := ty, pos := pos, after := af, guard := none } :: r) (.w j :: ks) sl := by
  refine ⟨v, ⟨rfl, ?_⟩, k⟩
  rw [pho_at h0, pho_at h1]; exact h
theorem e_w0 (h0 : L[j]? = some (o, nk)) (h1 : L[j + 1]? = some (o', nk')) (h : vOp P Θ op ⟨sl, o, nk⟩ fun v' o'' nk'' => v' = v ∧ o'' = o' ∧ nk'' = nk') (k : eOps P Θ ops K (pho L) m r ks sl) :
    eOps P Θ ops K (pho L) m ({ dst := none, op := op, type := ty, pos := pos, after := af, guard := none } :: r) (.w j :: ks) sl := by
  refine ⟨v, ⟨rfl, ?_⟩, k⟩
  rw [pho_at h0, pho_at h1]; exact h
theorem e_nil (h0 : L[m]? = some (o, nk)) (h : ∀ o1, (∀ t, o1 t = o t) → K ⟨sl, o1, nk⟩) : eOps P Θ ops K (pho L) m [] [] sl := by
  show K ⟨sl, (pho L m).1, (pho L m).2⟩
  rw [pho_at h0]; exact h _ fun _ => rfl
end

/-! ### writers, with what they make spelled out -/
section
variable {P : Program} {Θ : Tab} {K : SV → (Nat → Option AO) → Nat → Prop} {sl : Nat → SV} {o : Nat → Option AO} {nk : Nat} {x y ix : Operand} {t e f : Nat} {a b : D}
theorem w_ap {i j : TI} {l xs ys : List D} {q z : Nat} (hx : ev sl x = .row q) (hy : ev sl y = .d (.sl z ys)) (hi : Θ t = some i) (hk : i.k = .slice e) (hj : Θ e = some j) (hz : j.z = some l) (hl : l.length = j.sz) (hpos : 0 < j.sz) (hzz : z = j.sz) (ho : o q = some (.row e j.sz xs))
    (h63 : xs.length + ys.length ≤ 9223372036854775807) (hby : (xs.length + ys.length) * j.bys ≤ 140737488355328) (h : K (.row nk) (upd (upd o q none) nk (some (.row e j.sz (xs ++ ys)))) (nk + 1)) : vOp P Θ (.call { callee := .builtin .append, args := #[x, y], argTypes := #[t, t] }) ⟨sl, o, nk⟩ K :=
  o_ap (q := some q) hi hk hj hz hl hpos (by rw [hx]; simp [dstOf, ho]) (by rw [hy]; exact sl_nstr) (by rw [hy]; simp [srcOf, hzz]) h63 hby h
theorem w_apn {i j : TI} {l ys : List D} {z : Nat} (hx : ev sl x = .d .nil) (hy : ev sl y = .d (.sl z ys)) (hi : Θ t = some i) (hk : i.k = .slice e) (hj : Θ e = some j) (hz : j.z = some l) (hl : l.length = j.sz) (hpos : 0 < j.sz) (hzz : z = j.sz)
    (h63 : ys.length ≤ 9223372036854775807) (hby : ys.length * j.bys ≤ 140737488355328) (h : K (.row nk) (upd o nk (some (.row e j.sz ys))) (nk + 1)) : vOp P Θ (.call { callee := .builtin .append, args := #[x, y], argTypes := #[t, t] }) ⟨sl, o, nk⟩ K :=
  o_ap (q := none) (xs := []) (ys := ys) hi hk hj hz hl hpos (by rw [hx]; simp [dstOf]) (by rw [hy]; exact sl_nstr) (by rw [hy]; simp [srcOf, hzz]) (by simpa using h63) (by simpa using hby) h
/-- Onto nothing or a row. -/
theorem w_apD {i j : TI} {l xs ys : List D} {q : Option Nat} {z : Nat} (hy : ev sl y = .d (.sl z ys)) (hi : Θ t = some i) (hk : i.k = .slice e) (hj : Θ e = some j) (hz : j.z = some l) (hl : l.length = j.sz) (hpos : 0 < j.sz) (hzz : z = j.sz) (hd : dstOf o e j.sz (ev sl x) = some (q, xs))
    (h63 : xs.length + ys.length ≤ 9223372036854775807) (hby : (xs.length + ys.length) * j.bys ≤ 140737488355328) (h : K (.row nk) (upd (killo o q) nk (some (.row e j.sz (xs ++ ys)))) (nk + 1)) : vOp P Θ (.call { callee := .builtin .append, args := #[x, y], argTypes := #[t, t] }) ⟨sl, o, nk⟩ K :=
  o_ap (q := q) hi hk hj hz hl hpos hd (by rw [hy]; exact sl_nstr) (by rw [hy]; simp [srcOf, hzz]) h63 hby h
theorem g_apD2 {i j : TI} {l xs ys : List D} {q : Option Nat} {z : Nat} (hy : ev sl y = .d (.sl z ys)) (hi : Θ t = some i) (hk : i.k = .slice e) (hj : Θ e = some j) (hz : j.z = some l) (hl : l.length = j.sz) (hpos : 0 < j.sz) (hzz : z = j.sz) (hd : dstOf o e j.sz (ev sl x) = some (q, xs))
    (h63 : xs.length + ys.length ≤ 9223372036854775807) (hby : (xs.length + ys.length) * j.bys ≤ 140737488355328) (h : ∀ o1, o1 nk = some (.row e j.sz (xs ++ ys)) → (∀ t, t ≠ nk → some t ≠ q → o1 t = o t) → K (.row nk) o1 (nk + 1)) : vOp P Θ (.call { callee := .builtin .append, args := #[x, y], argTypes := #[t, t] }) ⟨sl, o, nk⟩ K :=
  g_apD hd hy hi hk hj hz hl hpos hzz h63 hby h
theorem w_apr {i j : TI} {l xs ys : List D} {q q2 : Nat} (hx : ev sl x = .row q) (hy : ev sl y = .row q2) (hi : Θ t = some i) (hk : i.k = .slice e) (hj : Θ e = some j) (hz : j.z = some l) (hl : l.length = j.sz) (hpos : 0 < j.sz) (ho : o q = some (.row e j.sz xs)) (ho2 : o q2 = some (.row e j.sz ys))
    (h63 : xs.length + ys.length ≤ 9223372036854775807) (hby : (xs.length + ys.length) * j.bys ≤ 140737488355328) (h : K (.row nk) (upd (upd o q none) nk (some (.row e j.sz (xs ++ ys)))) (nk + 1)) : vOp P Θ (.call { callee := .builtin .append, args := #[x, y], argTypes := #[t, t] }) ⟨sl, o, nk⟩ K :=
  o_ap (q := some q) hi hk hj hz hl hpos (by rw [hx]; simp [dstOf, ho]) (by rw [hy]; intro b h; cases h) (by rw [hy]; simp [srcOf, ho2]) h63 hby h
theorem w_aps {i j v : TI} {u : Nat} {xs : List D} {b : List UInt8} {q : Nat} (hx : ev sl x = .row q) (hy : ev sl y = .d (.str b)) (hi : Θ t = some i) (hk : i.k = .slice e) (hj : Θ e = some j) (hz : j = { k := .int .u8, sz := 1, bys := 1, z := some [.int .u8 0] }) (hu : Θ u = some v) (huk : v.k = .str) (ho : o q = some (.row e 1 xs))
    (h63 : xs.length + b.length ≤ 140737488355328) (h : K (.row nk) (upd (upd o q none) nk (some (.row e 1 (xs ++ bytesD b)))) (nk + 1)) : vOp P Θ (.call { callee := .builtin .append, args := #[x, y], argTypes := #[t, u] }) ⟨sl, o, nk⟩ K :=
  o_ap_str (q := some q) hy hi hk hj hz hu huk (by rw [hx]; simp [dstOf, ho]) h63 h
theorem w_stV {i : TI} {k g q e z : Nat} {xs : List D} {cs : List SV} (hx : ev sl x = .loc k g) (hy : ev sl y = .row q) (hq : o q = some (.row e z xs)) (hi : Θ t = some i) (hs : i.sz = 1) (ho : o k = some (.box cs)) (hle : g < cs.length) (h : K .any (upd o k (some (.box (cs.take g ++ [.row q] ++ cs.drop (g + 1))))) nk) : vOp P Θ (.store t x y) ⟨sl, o, nk⟩ K := by
  refine ⟨i, [.row q], hi, ?_, hs.symm, ?_⟩
  · show (ev sl y).cells o = _
    rw [hy]; simp [SV.cells, hq]
  · show (match ev sl x with | .loc k f => _ | _ => False)
    rw [hx]
    exact ⟨cs, ho, by simp; omega, h⟩
end

theorem killo_ne {o : Nat → Option AO} {q : Option Nat} {t : Nat} (h : q ≠ some t) : killo o q t = o t := by
  cases q with
  | none => rfl
  | some u => exact upd_ne _ _ fun e => h (by rw [e])
theorem dst_keep {o o' : Nat → Option AO} {e z : Nat} {c : SV} {q : Option Nat} {xs : List D} (hd : dstOf o e z c = some (q, xs)) (h : ∀ t, q = some t → o' t = o t) : dstOf o' e z c = some (q, xs) := by
  unfold dstOf at hd ⊢
  split at hd
  · exact hd
  · rename_i t
    have hq : q = some t := by
      split at hd
      · split at hd
        · simp only [Option.some.injEq, Prod.mk.injEq] at hd
          exact hd.1.symm
        · cases hd
      · cases hd
    rw [h t hq]; exact hd
  · cases hd

/-- Weaker answers. -/
theorem PSpec.leR {P : Program} {f : FuncId} {args : List SV} {x y : D} (h : PSpec P f args (.d x)) (hl : D.le x y) : PSpec P f args (.d y) := fun o nk w S γ vs h1 h2 h3 h4 => by
  refine (h o nk w S γ vs h1 h2 h3 h4).mono ?_
  rintro v w' ⟨r, o', nk', S', γ', ⟨rfl, rfl, rfl⟩, hs, ht, hr, hlt⟩
  cases hr with
  | d _ _ hrd => exact ⟨.d y, _, _, S', γ', ⟨rfl, rfl, rfl⟩, hs, ht, .d _ _ (hrd.le hl), trivial⟩
theorem PSpec.leT {P : Program} {f : FuncId} {args : List SV} {xs ys : List D} (h : PSpec P f args (.tup (xs.map .d))) (hl : D.les xs ys) : PSpec P f args (.tup (ys.map .d)) := fun o nk w S γ vs h1 h2 h3 h4 => by
  refine (h o nk w S γ vs h1 h2 h3 h4).mono ?_
  rintro v w' ⟨r, o', nk', S', γ', ⟨rfl, rfl, rfl⟩, hs, ht, hr, hlt⟩
  cases hr with
  | tup _ us hv hrs =>
    refine ⟨.tup (ys.map .d), _, _, S', γ', ⟨rfl, rfl, rfl⟩, hs, ht, .tup _ us (by rw [hv, List.length_map, List.length_map, D.les_length hl]) fun i c v hc hv => ?_, lts_of fun i c hc => ?_⟩
    · rw [List.getElem?_map] at hc
      obtain ⟨y, hy, rfl⟩ := Option.map_eq_some_iff.1 hc
      obtain ⟨x, hx, hxy⟩ := D.les_get hl i y hy
      have := hrs i (.d x) v (by rw [List.getElem?_map, hx]; rfl) hv
      cases this with
      | d _ _ hrd => exact .d _ _ (hrd.le hxy)
    · rw [List.getElem?_map] at hc
      obtain ⟨y, hy, rfl⟩ := Option.map_eq_some_iff.1 hc
      trivial

/-- One result, in memory. -/
theorem PSpec.ofC1 {P : Program} {Θ : Tab} (hΘ : TabOk P Θ) {f : FuncId} {n : Nat} {rs : List ResultVar} {c : Code} {args : List SV} {x : D} (hf : FnOkC P f n rs c) (hn : args.length ≤ n)
    (h : ∀ o nk, WP P n nk c ⟨slots args, o, nk⟩ (retC Θ rs fun r o' nk' => r = .d x ∧ nk ≤ nk' ∧ ∀ t, t < nk → o' t = o t)) : PSpec P f args (.d x) := fun o nk =>
  Spec.pure (fun _ => trivial) rfl (Spec.of_bodyC hΘ hf hn (h o nk))
theorem resis_agg {Θ : Tab} {sl : Nat → SV} {o : Nat → Option AO} {nk a t : Nat} {i : TI} {k g : Nat} {cs : List SV} {ds : List D} (hx : sl a = .loc k g) (hi : Θ t = some i) (ha : i.k.agg = true) (ho : o k = some (.box cs)) (hc : allD ((cs.drop g).take i.sz) = some ds) (hl : ds.length = i.sz) (hlf : ds.all D.leaf = true) : ResIs Θ ⟨sl, o, nk⟩ (.cell a t) (.d (.agg ds)) := by
  refine ⟨⟨k, g, hx⟩, i, hi, ?_⟩
  show (match sl a with | .loc k f => _ | .el x => _ | _ => False)
  rw [hx]
  refine ⟨cs, ho, ?_⟩
  rw [if_pos ha]
  exact ⟨ds, hc, hl, hlf, rfl⟩
theorem retC1_ok {Θ : Tab} {a t : Nat} {sl : Nat → SV} {o o0 : Nat → Option AO} {nk nk0 : Nat} {x x' : D} (h1 : ResIs Θ ⟨sl, o, nk⟩ (.cell a t) (.d x')) (hx : x' = x) (h3 : nk0 ≤ nk) (h4 : ∀ t, t < nk0 → o t = o0 t) :
    retC Θ [.cell a t] (fun r o' nk' => r = .d x ∧ nk0 ≤ nk' ∧ ∀ t, t < nk0 → o' t = o0 t) .ret ⟨sl, o, nk⟩ :=
  ⟨[.d x'], ⟨h1, trivial⟩, by rw [hx]; rfl, h3, h4⟩

/-- It answers a row of its own, or nothing where there is nothing. -/
def DSpec (P : Program) (f : FuncId) (args : List SV) (e z : Nat) (xs : List D) : Prop := ∀ (o : Nat → Option AO) (nk : Nat), Spec P f args o nk fun r o' nk' => (r = .d .nil ∧ xs = [] ∧ nk ≤ nk' ∧ ∀ t, t < nk → o' t = o t) ∨ ∃ q, r = .row q ∧ nk ≤ q ∧ q < nk' ∧ o' q = some (.row e z xs) ∧ ∀ t, t < nk → o' t = o t
theorem DSpec.of {P : Program} {f : FuncId} {n : Nat} {ts : List Nat} {c : Code} {args : List SV} {e z : Nat} {xs : List D} (hf : FnOk P f n ts c) (hn : args.length ≤ n)
    (h : ∀ o nk, WP P n nk c ⟨slots args, o, nk⟩ (retQ ts fun r o' nk' => (r = .d .nil ∧ xs = [] ∧ nk ≤ nk' ∧ ∀ t, t < nk → o' t = o t) ∨ ∃ q, r = .row q ∧ nk ≤ q ∧ q < nk' ∧ o' q = some (.row e z xs) ∧ ∀ t, t < nk → o' t = o t)) : DSpec P f args e z xs := fun o nk => Spec.of_body hf hn (h o nk)
theorem drow_ok {ts : List Nat} {sl : Nat → SV} {o o0 : Nat → Option AO} {nk nk0 q e z : Nat} {xs : List D} (h1 : resOf ts ⟨sl, o, nk⟩ = .row q) (h2 : nk0 ≤ q) (h3 : q < nk) (h5 : o q = some (.row e z xs)) (h4 : ∀ t, t < nk0 → o t = o0 t) :
    retQ ts (fun r o' nk' => (r = .d .nil ∧ xs = [] ∧ nk0 ≤ nk' ∧ ∀ t, t < nk0 → o' t = o0 t) ∨ ∃ q, r = .row q ∧ nk0 ≤ q ∧ q < nk' ∧ o' q = some (.row e z xs) ∧ ∀ t, t < nk0 → o' t = o0 t) .ret ⟨sl, o, nk⟩ := .inr ⟨q, h1, h2, h3, h5, h4⟩
theorem dnil_ok {ts : List Nat} {sl : Nat → SV} {o o0 : Nat → Option AO} {nk nk0 e z : Nat} {xs : List D} (h1 : resOf ts ⟨sl, o, nk⟩ = .d .nil) (h2 : xs = []) (h3 : nk0 ≤ nk) (h4 : ∀ t, t < nk0 → o t = o0 t) :
    retQ ts (fun r o' nk' => (r = .d .nil ∧ xs = [] ∧ nk0 ≤ nk' ∧ ∀ t, t < nk0 → o' t = o0 t) ∨ ∃ q, r = .row q ∧ nk0 ≤ q ∧ q < nk' ∧ o' q = some (.row e z xs) ∧ ∀ t, t < nk0 → o' t = o0 t) .ret ⟨sl, o, nk⟩ := .inl ⟨h1, h2, h3, h4⟩
/-- The end of a function whose slot holds nothing or a row. -/
theorem ddst_ok {ts : List Nat} {sl : Nat → SV} {o o0 : Nat → Option AO} {nk nk0 e z : Nat} {xs ys : List D} {q : Option Nat} (h1 : dstOf o e z (resOf ts ⟨sl, o, nk⟩) = some (q, ys)) (hx : ys = xs) (h2 : ∀ t, q = some t → nk0 ≤ t ∧ t < nk) (h3 : nk0 ≤ nk) (h4 : ∀ t, t < nk0 → o t = o0 t) :
    retQ ts (fun r o' nk' => (r = .d .nil ∧ xs = [] ∧ nk0 ≤ nk' ∧ ∀ t, t < nk0 → o' t = o0 t) ∨ ∃ q, r = .row q ∧ nk0 ≤ q ∧ q < nk' ∧ o' q = some (.row e z xs) ∧ ∀ t, t < nk0 → o' t = o0 t) .ret ⟨sl, o, nk⟩ := by
  subst hx
  generalize hr : resOf ts ⟨sl, o, nk⟩ = r at h1
  unfold dstOf at h1
  split at h1
  · simp only [Option.some.injEq, Prod.mk.injEq] at h1
    exact .inl ⟨hr, h1.2.symm, h3, h4⟩
  · rename_i u
    split at h1
    · rename_i e' z' zs ho
      split at h1
      · rename_i he
        obtain ⟨rfl, rfl⟩ := he
        simp only [Option.some.injEq, Prod.mk.injEq] at h1
        obtain ⟨rfl, rfl⟩ := h1
        have := h2 u rfl
        exact .inr ⟨u, hr, this.1, this.2, ho, h4⟩
      · cases h1
    · cases h1
  · cases h1
theorem DSpec.le {P : Program} {f : FuncId} {args args' : List SV} {e z : Nat} {xs : List D} (h : DSpec P f args' e z xs) (hl : SV.les args args') : DSpec P f args e z xs := fun o nk => (h o nk).le hl
theorem DSpec.bd {P : Program} {f : FuncId} {args : List SV} {e z : Nat} {xs : List D} (h : SV.bds args → DSpec P f args e z xs) : DSpec P f args e z xs := fun o nk => Spec.bd fun hb => h hb o nk
theorem frz_post {P : Program} {w : World} {S : Nat → Prop} {γ : Nat → Value} {o : Nat → Option AO} {nk : Nat} {z : Nat} {xs : List D} {v : Value} {w' : World} (h1 : Sto w S γ o nk) {r : SV} {o' : Nat → Option AO} {nk' : Nat} {S' : Nat → Prop} {γ' : Nat → Value} {e q : Nat}
    (hr : r = .row q) (ho : o' q = some (.row e z xs)) (hnq : nk ≤ q) (hfr : ∀ t, t < nk → o' t = o t) (hs : Sto w' S' γ' o' nk') (ht : Tr w S γ o nk w' S' γ' o' nk') (hsr : SR w' S' γ' o' r v) :
    Post P w S γ o nk (fun r o'' nk'' => r = .d (.sl z xs) ∧ o'' = o ∧ nk'' = nk) v w' := by
  subst hr
  obtain ⟨k1, k2, k3⟩ := hs.freeze ho
  have hv : Rd w' (fun k => S' k ∨ blk (γ' q) = some k) (.sl z xs) v := by
    cases hsr with
    | row _ _ hv => rw [hv e z xs ho]; exact k3
  have hk : Wko nk id (upd o' q none) o nk := by
    refine ⟨Nat.le_refl _, fun t x hx => ?_, fun t t' x x' _ _ e => e, fun _ _ _ _ => rfl⟩
    have hlt := h1.o_lt t x hx
    refine ⟨hlt, ?_, ?_⟩
    · rw [AO.ren_id]; show upd o' q none t = some x; rw [upd_ne _ _ (by omega), hfr t hlt, hx]
    · cases x with
      | box cs => exact (h1.box t cs hx).2
      | row => trivial
      | raw => trivial
  exact ⟨.d (.sl z xs), o, nk, _, γ' ∘ id, ⟨rfl, rfl, rfl⟩, hk.sto k1, hk.tr (ht.trans k2), .d _ _ hv, trivial⟩
theorem nil_post {P : Program} {w : World} {S : Nat → Prop} {γ : Nat → Value} {o : Nat → Option AO} {nk : Nat} {z : Nat} {v : Value} {w' : World} (h1 : Sto w S γ o nk) {r : SV} {o' : Nat → Option AO} {nk' : Nat} {S' : Nat → Prop} {γ' : Nat → Value}
    (hr : r = .d .nil) (hfr : ∀ t, t < nk → o' t = o t) (hs : Sto w' S' γ' o' nk') (ht : Tr w S γ o nk w' S' γ' o' nk') (hsr : SR w' S' γ' o' r v) :
    Post P w S γ o nk (fun r o'' nk'' => r = .d (.sl z []) ∧ o'' = o ∧ nk'' = nk) v w' := by
  subst hr
  have hk : Wko nk id o' o nk := by
    refine ⟨Nat.le_refl _, fun t x hx => ?_, fun t t' x x' _ _ e => e, fun _ _ _ _ => rfl⟩
    have hlt := h1.o_lt t x hx
    refine ⟨hlt, ?_, ?_⟩
    · rw [AO.ren_id]; show o' t = some x; rw [hfr t hlt, hx]
    · cases x with
      | box cs => exact (h1.box t cs hx).2
      | row => trivial
      | raw => trivial
  refine ⟨.d (.sl z []), o, nk, _, γ' ∘ id, ⟨rfl, rfl, rfl⟩, hk.sto hs, hk.tr ht, ?_, trivial⟩
  cases hsr with
  | d _ _ hrd => exact .d _ _ (hrd.le (by simp [D.le]))
/-- A row that the caller does not write: frozen. -/
theorem RSpec.frz {P : Program} {f : FuncId} {args : List SV} {e z : Nat} {xs : List D} (h : RSpec P f args e z xs) : PSpec P f args (.d (.sl z xs)) := fun o nk w S γ vs h1 h2 h3 h4 => by
  refine (h o nk w S γ vs h1 h2 h3 h4).mono ?_
  rintro v w' ⟨r, o', nk', S', γ', ⟨q, hr, k1, k2, k3, k4⟩, hs, ht, hsr, hl⟩
  exact frz_post h1 hr k3 k1 k4 hs ht hsr
theorem DSpec.frz {P : Program} {f : FuncId} {args : List SV} {e z : Nat} {xs : List D} (h : DSpec P f args e z xs) : PSpec P f args (.d (.sl z xs)) := fun o nk w S γ vs h1 h2 h3 h4 => by
  refine (h o nk w S γ vs h1 h2 h3 h4).mono ?_
  rintro v w' ⟨r, o', nk', S', γ', ⟨hr, rfl, k1, k4⟩ | ⟨q, hr, k1, k2, k3, k4⟩, hs, ht, hsr, hl⟩
  · exact nil_post h1 hr k4 hs ht hsr
  · exact frz_post h1 hr k3 k1 k4 hs ht hsr
theorem o_bs1 {Θ : Tab} {P : Program} {K : SV → (Nat → Option AO) → Nat → Prop} {sl : Nat → SV} {o : Nat → Option AO} {nk : Nat} {x : Operand} {t e : Nat} {a : D} {i j : TI} {l : List D} (hx : ev sl x = .d a) (hw : a.width = j.sz) (hi : Θ t = some i) (hk : i.k = .slice e) (hj : Θ e = some j) (hz : j.z = some l) (hl : l.length = j.sz) (hpos : 0 < j.sz) (hs : 1 * j.sz ≤ 16777216) (h : K (.d (.sl j.sz [a])) o nk) : vOp P Θ (.buildSlice t 1 #[(0, x)]) ⟨sl, o, nk⟩ K :=
  o_bs (xs := [a]) (by simp [partsL, hx, hw]) hi hk hj hz hl hpos rfl hs (by decide) h
theorem o_cv_rune {Θ : Tab} {P : Program} {K : SV → (Nat → Option AO) → Nat → Prop} {sl : Nat → SV} {o : Nat → Option AO} {nk : Nat} {x : Operand} {i j : TI} {src dst : Nat} {k q : IntKind} {m : Int} (hx : ev sl x = .d (.int k m)) (hi : Θ src = some i) (hik : i.k = .int q) (hj : Θ dst = some j) (hk : j.k = .str) (h : K (.d (.str (Utf8.encode m).data.toList)) o nk) : vOp P Θ (.convert src dst x) ⟨sl, o, nk⟩ K := by
  show coOp Θ o src dst (ev sl x) (fun v => K v o nk)
  rw [hx]
  refine ⟨i, j, hi, hj, ?_⟩
  simp only [hk]; exact ⟨⟨q, hik⟩, h⟩
/-- Is a slice nil? -/
theorem o_eqnil {Θ : Tab} {P : Program} {K : SV → (Nat → Option AO) → Nat → Prop} {sl : Nat → SV} {o : Nat → Option AO} {nk : Nat} {x y : Operand} {t u e z : Nat} {xs : List D} {i : TI} (hx : ev sl x = .d (.sl z xs)) (hy : ev sl y = .d .nil) (hi : Θ t = some i) (hk : i.k = .slice e) (h : ∀ b : Bool, (b = true → xs = []) → K (.d (.bool b)) o nk) : vOp P Θ (.binOp .eql t x y u) ⟨sl, o, nk⟩ K := by
  show bnOp Θ o .eql t (ev sl x) (ev sl y) (fun v => K v o nk)
  rw [hx, hy]; exact ⟨⟨i, e, hi, hk⟩, h⟩
theorem o_nenil {Θ : Tab} {P : Program} {K : SV → (Nat → Option AO) → Nat → Prop} {sl : Nat → SV} {o : Nat → Option AO} {nk : Nat} {x y : Operand} {t u e z : Nat} {xs : List D} {i : TI} (hx : ev sl x = .d (.sl z xs)) (hy : ev sl y = .d .nil) (hi : Θ t = some i) (hk : i.k = .slice e) (h : ∀ b : Bool, (b = false → xs = []) → K (.d (.bool b)) o nk) : vOp P Θ (.binOp .neq t x y u) ⟨sl, o, nk⟩ K := by
  show bnOp Θ o .neq t (ev sl x) (ev sl y) (fun v => K v o nk)
  rw [hx, hy]; exact ⟨⟨i, e, hi, hk⟩, h⟩

/-- A new object under the next name; the others as they were. -/
theorem wk_new {P : Program} {f : FuncId} {args : List SV} {o : Nat → Option AO} {nk : Nat} {x : AO} (hx : ∀ m, x.lt m) (hi : x.ren (fun _ => 0) = x) {o' : Nat → Option AO} {nk' q : Nat} (h1 : nk ≤ q) (h2 : q < nk') (h3 : o' q = some x) (h4 : ∀ t, t < nk → o' t = o t)
    (hlt : ∀ t y, o t = some y → t < nk ∧ y.lt nk) (hr : ∀ τ, x.ren τ = x) (hid : ∀ t y, o t = some y → ∀ τ : Nat → Nat, (∀ u, u < nk → τ u = u) → y.ren τ = y) : Wko nk (fun t => if t = nk then q else t) o' (upd o nk (some x)) (nk + 1) := by
  refine ⟨by omega, fun t y hy => ?_, fun t t' y y' hy hy' e => ?_, fun t y ht _ => if_neg (by omega)⟩
  · unfold upd at hy
    split at hy
    · rename_i he
      subst he
      injection hy with hy
      subst hy
      exact ⟨by omega, by simp only [if_true, h3, hr], hx _⟩
    · rename_i hne
      obtain ⟨h5, h6⟩ := hlt t y hy
      refine ⟨by omega, ?_, ?_⟩
      · rw [if_neg hne, h4 t h5, hy, hid t y hy _ fun u hu => if_neg (by omega)]
      · cases y with
        | box cs => exact SV.lts_mono (by omega) h6
        | row => trivial
        | raw => trivial
  · have key : ∀ t y, upd o nk (some x) t = some y → t = nk ∨ t < nk := fun t y hy => by
      unfold upd at hy
      split at hy
      · rename_i he; exact .inl he
      · exact .inr (hlt t y hy).1
    have k1 := key t y hy
    have k2 := key t' y' hy'
    by_cases ht : t = nk
    · by_cases ht' : t' = nk
      · rw [ht, ht']
      · rw [if_pos ht, if_neg ht'] at e
        omega
    · by_cases ht' : t' = nk
      · rw [if_neg ht, if_pos ht'] at e
        omega
      · rw [if_neg ht, if_neg ht'] at e
        exact e
mutual
theorem SV.ren_lt {n : Nat} {τ : Nat → Nat} (h : ∀ u, u < n → τ u = u) : ∀ {c : SV}, c.lt n → c.ren τ = c
  | .loc t f, hl => by simp only [SV.ren, h t hl]
  | .row t, hl => by simp only [SV.ren, h t hl]
  | .rel t j f, hl => by simp only [SV.ren, h t hl]
  | .raw t, hl => by simp only [SV.ren, h t hl]
  | .clo g fs cs, hl => by simp only [SV.ren, SV.rens_lt h hl.1, SV.rens_lt h hl.2]
  | .tup cs, hl => by simp only [SV.ren]; rw [SV.rens_lt h hl]
  | .d x, _ => rfl
  | .el x, _ => rfl
  | .any, _ => rfl
theorem SV.rens_lt {n : Nat} {τ : Nat → Nat} (h : ∀ u, u < n → τ u = u) : ∀ {cs : List SV}, SV.lts n cs → SV.rens τ cs = cs
  | [], _ => rfl
  | c :: cs, hl => by simp only [SV.rens]; rw [SV.ren_lt h hl.1, SV.rens_lt h hl.2]
end
/-- The new row under the next name. -/
theorem Spec.newRow {P : Program} {f : FuncId} {args : List SV} {o : Nat → Option AO} {nk : Nat} {e z : Nat} {xs : List D}
    (h : Spec P f args o nk fun r o' nk' => ∃ q, r = .row q ∧ nk ≤ q ∧ q < nk' ∧ o' q = some (.row e z xs) ∧ ∀ t, t < nk → o' t = o t) :
    Spec P f args o nk fun r o' nk' => r = .row nk ∧ o' = upd o nk (some (.row e z xs)) ∧ nk' = nk + 1 := by
  intro w S γ vs h1 h2 h3 h4
  refine (h w S γ vs h1 h2 h3 h4).mono ?_
  rintro v w' ⟨r, o', nk', S', γ', ⟨q, rfl, k1, k2, k3, k4⟩, hs, ht, hr, hl⟩
  have hlt : ∀ t y, o t = some y → t < nk ∧ y.lt nk := fun t y hy => by
    refine ⟨h1.o_lt t y hy, ?_⟩
    cases y with
    | box cs => exact (h1.box t cs hy).2
    | row => trivial
    | raw => trivial
  have hid : ∀ t y, o t = some y → ∀ τ : Nat → Nat, (∀ u, u < nk → τ u = u) → y.ren τ = y := fun t y hy τ hτ => by
    cases y with
    | box cs => simp only [AO.ren]; rw [SV.rens_lt hτ (h1.box t cs hy).2]
    | row => rfl
    | raw => rfl
  have hk : Wko nk (fun t => if t = nk then q else t) o' (upd o nk (some (.row e z xs))) (nk + 1) := wk_new (P := P) (f := f) (args := args) (x := .row e z xs) (fun _ => trivial) rfl k1 k2 k3 k4 hlt (fun _ => rfl) hid
  refine ⟨.row nk, _, _, S', γ' ∘ _, ⟨rfl, rfl, rfl⟩, hk.sto hs, hk.tr ht, hr.of_ren (fun t x hx => (hk.o t x hx).2.1) (.row nk) ?_, Nat.lt_succ_self _⟩
  simp [SV.ren]
theorem RSpec.new {P : Program} {f : FuncId} {args : List SV} {e z : Nat} {xs : List D} (h : RSpec P f args e z xs) (o : Nat → Option AO) (nk : Nat) : Spec P f args o nk fun r o' nk' => r = .row nk ∧ o' = upd o nk (some (.row e z xs)) ∧ nk' = nk + 1 :=
  Spec.newRow (h o nk)
theorem w_rcall {P : Program} {Θ : Tab} {K : SV → (Nat → Option AO) → Nat → Prop} {sl : Nat → SV} {o : Nat → Option AO} {nk : Nat} {g : FuncId} {asx : Array Operand} {ts : Array Nat} {us : List SV} {e z : Nat} {xs : List D} (hs : RSpec P g us e z xs) (ha : asx.toList.map (ev sl) = us)
    (h : K (.row nk) (upd o nk (some (.row e z xs))) (nk + 1)) : vOp P Θ (.call { callee := .value (.func g), args := asx, argTypes := ts }) ⟨sl, o, nk⟩ K :=
  o_call (hs.new o nk) ha (by rintro r o1 nk1 ⟨rfl, rfl, rfl⟩; exact h)
end Go.Proofs.YtpkcbdhjnnnkbaaGreat.Abs

set_option linter.unusedVariables false
set_option linter.unusedSimpArgs false
set_option maxRecDepth 10000
namespace Go.Proofs.YtpkcbdhjnnnkbaaGreat.Abs
open Go
theorem PSpec.of2C {P : Program} {Θ : Tab} (hΘ : TabOk P Θ) {f : FuncId} {n : Nat} {rs : List ResultVar} {c : Code} {args : List SV} {xs : List D} (hf : FnOkC P f n rs c) (hn : args.length ≤ n)
    (h : ∀ o nk, WP P n nk c ⟨slots args, o, nk⟩ (retC Θ rs fun r o' nk' => r = .tup (xs.map .d) ∧ nk ≤ nk' ∧ ∀ t, t < nk → o' t = o t)) : PSpec P f args (.tup (xs.map .d)) := fun o nk => by
  refine Spec.pure (fun m => ?_) ?_ (Spec.of_bodyC hΘ hf hn (h o nk))
  · exact lts_of fun i c hc => by
      rw [List.getElem?_map] at hc
      obtain ⟨d, _, rfl⟩ := Option.map_eq_some_iff.1 hc
      trivial
  · show SV.tup (SV.rens id (xs.map .d)) = _
    rw [SV.rens_id]
theorem retC_ok {Θ : Tab} {a t b : Nat} {sl : Nat → SV} {o o0 : Nat → Option AO} {nk nk0 : Nat} {x y x' y' : D} (h1 : ResIs Θ ⟨sl, o, nk⟩ (.cell a t) (.d x')) (h2 : sl b = .d y') (hx : x' = x) (hy : y' = y) (h3 : nk0 ≤ nk) (h4 : ∀ t, t < nk0 → o t = o0 t) :
    retC Θ [.cell a t, .tmp b] (fun r o' nk' => r = .tup ([x, y].map .d) ∧ nk0 ≤ nk' ∧ ∀ t, t < nk0 → o' t = o0 t) .ret ⟨sl, o, nk⟩ :=
  ⟨[.d x', .d y'], ⟨h1, h2.symm, trivial⟩, by rw [hx, hy]; rfl, h3, h4⟩
/-- The order of two values that may be. -/
def cmpS (doc : Bool) (c : Val → Val → Int) : List Val → List Val → List Str → List Str → Int
  | x :: xs, y :: ys, n :: ns, m :: ms => orI [if doc = true then Go.Lib.compareBytes n m else 0, c x y, cmpS doc c xs ys ns ms]
  | x :: xs, y :: ys, _, _ => orI [c x y, cmpS doc c xs ys [] []]
  | xs, ys, _, _ => cmpI xs.length ys.length

end Go.Proofs.YtpkcbdhjnnnkbaaGreat.Abs

set_option linter.unusedVariables false
set_option linter.unusedSimpArgs false
set_option maxRecDepth 10000
namespace Go.Proofs.YtpkcbdhjnnnkbaaGreat.Abs
open Go
/-- The number that digits say. -/
def digN : Str → Nat → Nat
  | [], n => n
  | c :: s, n => digN s (10 * n + (c.toNat - 48))
def isDig (c : UInt8) : Bool := decide (48 ≤ c.toNat) && decide (c.toNat ≤ 57)
/-- The index that a step says; -1 if none. -/
def stepI (s : Str) : Int := if s.length < 1 ∨ 3 < s.length ∨ (s[0]? = some 48 ∧ 1 < s.length) then -1 else if s.all isDig then (digN s 0 : Int) else -1
theorem digN_snoc : ∀ (s : Str) (c : UInt8) (n : Nat), digN (s ++ [c]) n = 10 * digN s n + (c.toNat - 48)
  | [], c, n => rfl
  | x :: s, c, n => by simp only [List.cons_append, digN]; exact digN_snoc s c _
theorem digN_lt : ∀ (s : Str) (n m : Nat), s.all isDig = true → n < 10 ^ m → digN s n < 10 ^ (m + s.length)
  | [], n, m, _, hn => hn
  | c :: s, n, m, h, hn => by
    simp only [List.all_cons, Bool.and_eq_true, isDig, decide_eq_true_eq] at h
    have h1 : 10 * n + (c.toNat - 48) < 10 ^ (m + 1) := by rw [Nat.pow_succ]; omega
    have := digN_lt s (10 * n + (c.toNat - 48)) (m + 1) (by simpa [isDig] using h.2) h1
    simp only [digN, List.length_cons]
    rwa [show m + (s.length + 1) = m + 1 + s.length by omega]
theorem digN_le {s : Str} (h : s.all isDig = true) (hl : s.length ≤ 3) : digN s 0 < 1000 := by
  have := digN_lt s 0 0 h (by simp)
  have h2 : 10 ^ (0 + s.length) ≤ 10 ^ 3 := Nat.pow_le_pow_right (by omega) (by omega)
  omega
theorem dig_step {n : Nat} {c : UInt8} (hn : n < 1000) (h1 : 48 ≤ c.toNat) : SV.d (.int .i64 (IntKind.i64.wrap (IntKind.i64.wrap (10 * (n : Int)) + IntKind.i64.wrap (IntKind.u8.wrap ((c.toNat : Int) - 48))))) = SV.d (.int .i64 ((10 * n + (c.toNat - 48) : Nat) : Int)) := by
  have hc : c.toNat < 256 := c.toNat_lt
  rw [wrap_u8, wrap_i64 (m := 10 * (n : Int)) (by omega) (by omega), wrap_i64 (m := ((c.toNat : Int) - 48) % 256) (by omega) (by omega), wrap_i64 (by omega) (by omega)]
  refine congrArg (fun m : Int => SV.d (.int .i64 m)) ?_
  omega
theorem stepI_neg {s : Str} (h1 : 1 ≤ s.length) (h3 : s.length ≤ 3) {a b : Bool} (hq : (a || b) = false ∧ (decide (bAt s (0 : Int).toNat = 48) && decide ((1 : Int) < s.length)) = false) : stepI s = if s.all isDig then (digN s 0 : Int) else -1 := by
  have h0 : 0 < s.length := by omega
  unfold stepI
  rw [if_neg]
  rintro (h | h | ⟨h, h2⟩)
  · omega
  · omega
  · have hq2 := hq.2
    rw [List.getElem?_eq_getElem h0, Option.some.injEq] at h
    rw [Int.toNat_zero, bAt_eq h0, h] at hq2
    simp at hq2
    omega

theorem fn136 : FnOk Tryz.prog 136 48 [2] (bodyOf Tryz.f136) := ⟨Tryz.f136, Tryz.func136, by kernel_rfl, by decide, by kernel_rfl, by kernel_rfl⟩
theorem s136 (s : Str) : PSpec Tryz.prog 136 [.d (.str s)] (.d (.int .i64 (stepI s))) := by
  refine PSpec.of fn136 (by simp) fun o nk => ?_
  refine WP.seq fun K1 hK1 => ?_
  refine WP.reg tabOk rfl ?_
  refine u_step (o_assign rfl ?_)
  refine u_nil ?_
  refine hK1 _ ?_
  refine WP.seq fun K2 hK2 => ?_
  refine WP.seq fun K3 hK3 => ?_
  refine WP.reg tabOk rfl ?_
  refine u_step (o_move rfl ?_)
  refine u_step (o_len_str rfl th9 rfl ?_)
  refine u_step (o_bin_int rfl rfl (by decide) rfl ?_)
  refine u_step (o_move rfl ?_)
  apply u_guard
  · exact GC.f _
  · intro hg
    refine o_move rfl ⟨rfl, rfl, rfl⟩
  apply u_guard
  · exact GC.f _
  · intro hg; try simp only [hg, cnd_true]; try simp only [hg, cnd_true, Bool.true_and]
    refine o_len_str rfl th9 rfl ⟨rfl, rfl, rfl⟩
  apply u_guard
  · exact GC.f _
  · intro hg; try simp only [hg, cnd_true]; try simp only [hg, cnd_true, Bool.true_and]
    refine o_bin_int rfl rfl (by decide) rfl ⟨rfl, rfl, rfl⟩
  refine u_step (o_pick_or rfl rfl rfl ?_)
  refine u_step (o_move rfl ?_)
  apply u_guard
  · exact GC.f _
  · intro hg
    refine o_move rfl ⟨rfl, rfl, rfl⟩
  apply u_guard
  · exact GC.f _
  · intro hg; try simp only [hg, cnd_true]; try simp only [hg, cnd_true, Bool.true_and]
    have hg2 := hg; try simp only [Q0, Q1, Q2, Q3, Q4, Q5, Q6, Q9, Qa, Qb, Qc, Qd] at hg2
    refine o_ix rfl rfl th9 rfl ?_ ?_ ⟨rfl, rfl, rfl⟩
    · decide
    · simp at hg2; simp; omega
  apply u_guard
  · exact GC.f _
  · intro hg; try simp only [hg, cnd_true]; try simp only [hg, cnd_true, Bool.true_and]
    refine o_bin_int rfl rfl (by decide) rfl ⟨rfl, rfl, rfl⟩
  apply u_guard
  · exact GC.f _
  · intro hg; try simp only [hg, cnd_true]; try simp only [hg, cnd_true, Bool.true_and]
    refine o_move rfl ⟨rfl, rfl, rfl⟩
  apply u_guard
  · exact GC.ct _ _
  · intro hg
    refine o_move rfl ⟨rfl, rfl, rfl⟩
  apply u_guard
  · exact GC.ct _ _
  · intro hg; try simp only [hg, cnd_true]; try simp only [hg, cnd_true, Bool.true_and]
    refine o_len_str rfl th9 rfl ⟨rfl, rfl, rfl⟩
  apply u_guard
  · exact GC.ct _ _
  · intro hg; try simp only [hg, cnd_true]; try simp only [hg, cnd_true, Bool.true_and]
    refine o_bin_int rfl rfl (by decide) rfl ⟨rfl, rfl, rfl⟩
  apply u_guard
  · exact GC.f _
  · intro hg; try simp only [hg, cnd_true]; try simp only [hg, cnd_true, Bool.true_and]
    refine o_pick_and rfl rfl rfl ⟨rfl, rfl, rfl⟩
  refine u_step (o_pick_or rfl rfl rfl ?_)
  refine u_nil ?_
  refine hK3 _ ?_
  refine WP.cond rfl (fun hc4 => ?_) (fun hc4 => ?_)
  ·
    try simp only [Q0, Q1, Q2, Q3, Q4, Q5, Q6, Q7, Q8, ge_iff_le, gt_iff_lt] at hc4
    refine WP.seq fun K5 hK5 => ?_
    refine WP.reg tabOk rfl ?_
    refine u_step (o_assign rfl ?_)
    refine u_nil ?_
    refine hK5 _ ?_
    refine WP.ret ?_
    refine ret_ok rfl ?_ (by omega) (fun _ _ => rfl)
    -- ret 1
    clear hK1 hK2 hK3 hK5
    refine congrArg (D.int .i64) ?_
    have hq := hc4
    simp only [stepI]
    rw [if_pos]
    simp only [Bool.or_eq_true, Bool.and_eq_true, decide_eq_true_eq, beq_iff_eq] at hq
    rcases hq with (h | h) | ⟨h, h2⟩
    · exact .inl (by omega)
    · exact .inr (.inl (by omega))
    · refine .inr (.inr ⟨?_, by omega⟩)
      have h0 : 0 < s.length := by omega
      rw [Int.toNat_zero, bAt_eq h0] at h
      rw [List.getElem?_eq_getElem h0, (toNat_eq (n := 48) (by omega)).1 h]; rfl
  ·
    try simp only [Q0, Q1, Q2, Q3, Q4, Q5, Q6, Q7, Q8, ge_iff_le, gt_iff_lt] at hc4
    have hq := Bool.or_eq_false_iff.1 hc4
    have hq1 := Bool.or_eq_false_iff.1 hq.1
    have hl1 : 1 ≤ s.length := by have := hq1.1; simp at this; omega
    have hl3 : s.length ≤ 3 := by have := hq1.2; simp at this; omega
    refine WP.skip ?_
    refine hK2 _ ?_
    refine WP.seq fun K6 hK6 => ?_
    refine WP.reg tabOk rfl ?_
    refine u_step (o_assign rfl ?_)
    refine u_nil ?_
    refine hK6 _ ?_
    refine WP.seq fun K7 hK7 => ?_
    refine WP.seq fun K8 hK8 => ?_
    refine WP.reg tabOk rfl ?_
    refine u_step (o_assign rfl ?_)
    refine u_nil ?_
    refine hK8 _ ?_
    refine WP.block ?_
    refine WP.loopL (ι := Nat) (fun i => ⟨al [(0, .d (.str s)), (3, .d (.int .i64 (digN (s.take i) 0 : Nat))), (4, .d (.int .i64 i))], o, nk⟩) (fun i => i ≤ s.length ∧ (s.take i).all isDig = true) (fun i => s.length - i) (fun i hA => ?_) 0 ?_ ?_
    ·
      obtain ⟨hle_i, hin_i⟩ := hA
      refine WP.seq fun K9 hK9 => ?_
      refine WP.seq fun K10 hK10 => ?_
      refine WP.reg tabOk rfl ?_
      refine u_step (o_move rfl ?_)
      refine u_step (o_move rfl ?_)
      refine u_step (o_len_str rfl th9 rfl ?_)
      refine u_step (o_bin_int rfl rfl (by decide) rfl ?_)
      refine u_nil ?_
      refine hK10 _ ?_
      refine WP.cond rfl (fun hc11 => ?_) (fun hc11 => ?_)
      ·
        try simp only [Q0, Q1, Q2, Q3, Q4, Q5, Q6, Q7, Q8, ge_iff_le, gt_iff_lt] at hc11
        refine WP.skip ?_
        refine hK9 _ ?_
        refine WP.seq fun K12 hK12 => ?_
        refine WP.block ?_
        refine WP.seq fun K13 hK13 => ?_
        refine WP.seq fun K14 hK14 => ?_
        refine WP.reg tabOk rfl ?_
        refine u_step (o_move rfl ?_)
        refine u_step (o_move rfl ?_)
        refine u_step (o_ix rfl rfl th9 rfl ?_ ?_ ?_)
        · first | exact Int.natCast_nonneg _ | decide
        · first | assumption | (simp; omega) | omega
        refine u_step (o_bin_int rfl rfl (by decide) rfl ?_)
        refine u_step (o_move rfl ?_)
        apply u_guard
        · exact GC.f _
        · intro hg
          refine o_move rfl ⟨rfl, rfl, rfl⟩
        apply u_guard
        · exact GC.f _
        · intro hg
          refine o_move rfl ⟨rfl, rfl, rfl⟩
        apply u_guard
        · exact GC.f _
        · intro hg; try simp only [hg, cnd_true]; try simp only [hg, cnd_true, Bool.true_and]
          have hg2 := hg; try simp only [Q0, Q1, Q2, Q3, Q4, Q5, Q6, Q9, Qa, Qb, Qc, Qd] at hg2
          refine o_ix rfl rfl th9 rfl ?_ ?_ ⟨rfl, rfl, rfl⟩
          · first | exact Int.natCast_nonneg _ | decide
          · first | assumption | (simp; omega) | omega
        apply u_guard
        · exact GC.f _
        · intro hg; try simp only [hg, cnd_true]; try simp only [hg, cnd_true, Bool.true_and]
          refine o_bin_int rfl rfl (by decide) rfl ⟨rfl, rfl, rfl⟩
        refine u_step (o_pick_or rfl rfl rfl ?_)
        refine u_nil ?_
        refine hK14 _ ?_
        refine WP.cond rfl (fun hc15 => ?_) (fun hc15 => ?_)
        ·
          try simp only [Q0, Q1, Q2, Q3, Q4, Q5, Q6, Q7, Q8, ge_iff_le, gt_iff_lt] at hc15
          refine WP.seq fun K16 hK16 => ?_
          refine WP.reg tabOk rfl ?_
          refine u_step (o_assign rfl ?_)
          refine u_nil ?_
          refine hK16 _ ?_
          refine WP.ret ?_
          refine ret_ok rfl ?_ (by omega) (fun _ _ => rfl)
          -- ret 2
          clear hK1 hK2 hK3 hK6 hK7 hK8 hK9 hK10 hK12 hK13 hK14 hK16
          have hn := stepI_neg hl1 hl3 hq
          have he := bAt_eq (l := s) (i := i) (by omega)
          have hb := hc15
          simp only [Int.toNat_natCast, he, Bool.or_eq_true, decide_eq_true_eq] at hb
          have hd : isDig s[i] = false := by simp only [isDig, Bool.and_eq_false_iff, decide_eq_false_iff_not]; omega
          rw [hn, if_neg (by rw [all_false (p := isDig) (by omega) hd]; simp)]
        ·
          try simp only [Q0, Q1, Q2, Q3, Q4, Q5, Q6, Q7, Q8, ge_iff_le, gt_iff_lt] at hc15
          refine WP.skip ?_
          refine hK13 _ ?_
          refine WP.reg tabOk rfl ?_
          refine u_step (o_move rfl ?_)
          refine u_step (o_bin_int rfl rfl (by decide) rfl ?_)
          refine u_step (o_move rfl ?_)
          refine u_step (o_move rfl ?_)
          refine u_step (o_ix rfl rfl th9 rfl ?_ ?_ ?_)
          · first | exact Int.natCast_nonneg _ | decide
          · first | assumption | (simp; omega) | omega
          refine u_step (o_bin_int rfl rfl (by decide) rfl ?_)
          refine u_step (o_cv_int rfl th5 th3 rfl ?_)
          refine u_step (o_bin_int rfl rfl (by decide) rfl ?_)
          refine u_step (o_assign rfl ?_)
          refine u_nil ?_
          refine hK12 _ ?_
          refine WP.reg tabOk rfl ?_
          refine u_step (o_move rfl ?_)
          refine u_step (o_bin_int rfl rfl (by decide) rfl ?_)
          refine u_step (o_assign rfl ?_)
          refine u_nil ?_
          -- back
          have hb := Bool.or_eq_false_iff.1 hc15
          have he := bAt_eq (l := s) (i := i) (by omega)
          simp only [Int.toNat_natCast, he, decide_eq_false_iff_not] at hb
          have hd : isDig s[i] = true := by simp only [isDig, Bool.and_eq_true, decide_eq_true_eq]; omega
          have hlt := digN_le hin_i (by simp; omega)
          refine ⟨i + 1, ⟨by omega, by rw [all_snoc (by omega), hin_i, hd]; rfl⟩, by omega, ?_⟩
          refine Le.al ?_
          simp only [List.forall_mem_cons]
          refine ⟨rfl, ?_, cnt (by omega), by simp⟩
          rw [take_snoc (by omega), digN_snoc, ← dig_step hlt (by omega), ← he]
          rfl
      ·
        try simp only [Q0, Q1, Q2, Q3, Q4, Q5, Q6, Q7, Q8, ge_iff_le, gt_iff_lt] at hc11
        refine WP.exit ?_
        refine hK7 _ ?_
        refine WP.seq fun K17 hK17 => ?_
        refine WP.reg tabOk rfl ?_
        refine u_step (o_move rfl ?_)
        refine u_step (o_assign rfl ?_)
        refine u_nil ?_
        refine hK17 _ ?_
        refine WP.ret ?_
        refine ret_ok rfl ?_ (by omega) (fun _ _ => rfl)
        -- ret 3
        clear hK1 hK2 hK3 hK6 hK7 hK8 hK9 hK10 hK17
        have hn := stepI_neg hl1 hl3 hq
        have h1 := all_true (by omega) hin_i
        rw [hn, if_pos h1, List.take_of_length_le (by omega)]
    ·
      simp
    ·
      refine Le.al ?_
      simp only [List.forall_mem_cons]
      exact ⟨rfl, rfl, rfl, by simp⟩

end Go.Proofs.YtpkcbdhjnnnkbaaGreat.Abs

set_option linter.unusedVariables false
set_option linter.unusedSimpArgs false
set_option maxRecDepth 10000
namespace Go.Proofs.YtpkcbdhjnnnkbaaGreat.Abs
open Go
def idxL (s : Str) : List D := if 0 ≤ stepI s then [.int .i64 (stepI s), .bool true] else [.int .i64 0, .bool false]
theorem dec_dig {s : Str} {i : Nat} (h : i < s.length) (h2 : (Utf8.decode ⟨s.toArray⟩ i).1 ≤ 57) : Utf8.decode ⟨s.toArray⟩ i = ((s[i]'h).toNat, 1) := by
  have hs : i < (⟨s.toArray⟩ : ByteArray).size := by simpa [ByteArray.size] using h
  have hg : (⟨s.toArray⟩ : ByteArray)[i]'hs = s[i]'h := rfl
  by_cases ha : (s[i]'h).toNat < 128
  · have := decode_ascii ⟨s.toArray⟩ i hs (by rw [hg]; exact ha)
    rw [this, hg]
  · have := (decode_high ⟨s.toArray⟩ i hs (by rw [hg]; omega)).1
    omega
theorem dig_not {s : Str} {i : Nat} (h : i < s.length) (h2 : (Utf8.decode ⟨s.toArray⟩ i).1 < 48 ∨ 57 < (Utf8.decode ⟨s.toArray⟩ i).1) : isDig (s[i]'h) = false := by
  have hs : i < (⟨s.toArray⟩ : ByteArray).size := by simpa [ByteArray.size] using h
  have hg : (⟨s.toArray⟩ : ByteArray)[i]'hs = s[i]'h := rfl
  simp only [isDig, Bool.and_eq_false_iff, decide_eq_false_iff_not]
  by_cases ha : (s[i]'h).toNat < 128
  · have := decode_ascii ⟨s.toArray⟩ i hs (by rw [hg]; exact ha)
    rw [this, hg] at h2
    simp only at h2
    omega
  · omega
theorem wrap_i32 {m : Int} (h1 : -2147483648 ≤ m) (h2 : m ≤ 2147483647) : IntKind.i32.wrap m = m := by
  simp only [IntKind.wrap, IntKind.bits, IntKind.signed]
  simp
  omega
theorem dig_step2 {n c : Nat} (hn : n < 1000) (h1 : 48 ≤ c) (h2 : c ≤ 57) : SV.d (.int .i64 (IntKind.i64.wrap (IntKind.i64.wrap (10 * (n : Int)) + IntKind.i64.wrap (IntKind.i32.wrap ((c : Int) - 48))))) = SV.d (.int .i64 ((10 * n + (c - 48) : Nat) : Int)) := by
  rw [wrap_i32 (by omega) (by omega), wrap_i64 (m := 10 * (n : Int)) (by omega) (by omega), wrap_i64 (m := (c : Int) - 48) (by omega) (by omega), wrap_i64 (by omega) (by omega)]
  refine congrArg (fun m : Int => SV.d (.int .i64 m)) ?_
  omega
theorem idx_no {s : Str} (h : stepI s = -1) : idxL s = [.int .i64 0, .bool false] := by
  unfold idxL; rw [if_neg (by omega)]
theorem idx_at {s : Str} {n : Nat} (h : stepI s = (n : Int)) : idxL s = [.int .i64 (n : Int), .bool true] := by
  unfold idxL; rw [if_pos (by omega), h]
theorem stepI_out {s : Str} (h : s.length < 1 ∨ 3 < s.length ∨ (s[0]? = some 48 ∧ 1 < s.length)) : stepI s = -1 := by
  unfold stepI; rw [if_pos h]
theorem stepI_in {s : Str} (h1 : 1 ≤ s.length) (h3 : s.length ≤ 3) (h : ¬ (s[0]? = some 48 ∧ 1 < s.length)) : stepI s = if s.all isDig then (digN s 0 : Int) else -1 := by
  unfold stepI
  rw [if_neg]
  rintro (h' | h' | h')
  · omega
  · omega
  · exact h h'
theorem zero_head {s : Str} (h0 : 0 < s.length) : bAt s (0 : Int).toNat = 48 ↔ s[0]? = some 48 := by
  rw [Int.toNat_zero, bAt_eq h0, List.getElem?_eq_getElem h0, Option.some.injEq]
  exact toNat_eq (n := 48) (by omega)

theorem fn184 : FnOk Tryz.prog 184 43 [2, 3] (bodyOf Tryz.f184) := ⟨Tryz.f184, Tryz.func184, by kernel_rfl, by decide, by kernel_rfl, by kernel_rfl⟩
theorem s184 (s : Str) : PSpec Tryz.prog 184 [.d (.str s)] (.tup ((idxL s).map .d)) := by
  refine PSpec.of2 fn184 (by simp) fun o nk => ?_
  refine WP.seq fun K1 hK1 => ?_
  refine WP.reg tabOk rfl ?_
  refine u_step (o_assign rfl ?_)
  refine u_step (o_assign rfl ?_)
  refine u_nil ?_
  refine hK1 _ ?_
  refine WP.seq fun K2 hK2 => ?_
  refine WP.seq fun K3 hK3 => ?_
  refine WP.reg tabOk rfl ?_
  refine u_step (o_move rfl ?_)
  refine u_step (o_len_str rfl th9 rfl ?_)
  refine u_step (o_bin_int rfl rfl (by decide) rfl ?_)
  refine u_step (o_move rfl ?_)
  apply u_guard
  · exact GC.f _
  · intro hg
    refine o_move rfl ⟨rfl, rfl, rfl⟩
  apply u_guard
  · exact GC.f _
  · intro hg; try simp only [hg, cnd_true]; try simp only [hg, cnd_true, Bool.true_and]
    refine o_len_str rfl th9 rfl ⟨rfl, rfl, rfl⟩
  apply u_guard
  · exact GC.f _
  · intro hg; try simp only [hg, cnd_true]; try simp only [hg, cnd_true, Bool.true_and]
    refine o_bin_int rfl rfl (by decide) rfl ⟨rfl, rfl, rfl⟩
  refine u_step (o_pick_or rfl rfl rfl ?_)
  refine u_step (o_move rfl ?_)
  apply u_guard
  · exact GC.f _
  · intro hg
    refine o_move rfl ⟨rfl, rfl, rfl⟩
  apply u_guard
  · exact GC.f _
  · intro hg; try simp only [hg, cnd_true]; try simp only [hg, cnd_true, Bool.true_and]
    refine o_len_str rfl th9 rfl ⟨rfl, rfl, rfl⟩
  apply u_guard
  · exact GC.f _
  · intro hg; try simp only [hg, cnd_true]; try simp only [hg, cnd_true, Bool.true_and]
    refine o_bin_int rfl rfl (by decide) rfl ⟨rfl, rfl, rfl⟩
  apply u_guard
  · exact GC.f _
  · intro hg; try simp only [hg, cnd_true]; try simp only [hg, cnd_true, Bool.true_and]
    refine o_move rfl ⟨rfl, rfl, rfl⟩
  apply u_guard
  · exact GC.ct _ _
  · intro hg
    refine o_move rfl ⟨rfl, rfl, rfl⟩
  apply u_guard
  · exact GC.ct _ _
  · intro hg; try simp only [hg, cnd_true]; try simp only [hg, cnd_true, Bool.true_and]
    have hg2 := hg; try simp only [Q0, Q1, Q2, Q3, Q4, Q5, Q6, Q9, Qa, Qb, Qc, Qd] at hg2
    refine o_ix rfl rfl th9 rfl ?_ ?_ ⟨rfl, rfl, rfl⟩
    · decide
    · simp at hg2; simp; omega
  apply u_guard
  · exact GC.ct _ _
  · intro hg; try simp only [hg, cnd_true]; try simp only [hg, cnd_true, Bool.true_and]
    refine o_bin_int rfl rfl (by decide) rfl ⟨rfl, rfl, rfl⟩
  apply u_guard
  · exact GC.f _
  · intro hg; try simp only [hg, cnd_true]; try simp only [hg, cnd_true, Bool.true_and]
    refine o_pick_and rfl rfl rfl ⟨rfl, rfl, rfl⟩
  refine u_step (o_pick_or rfl rfl rfl ?_)
  refine u_nil ?_
  refine hK3 _ ?_
  refine WP.cond rfl (fun hc4 => ?_) (fun hc4 => ?_)
  ·
    try simp only [Q0, Q1, Q2, Q3, Q4, Q5, Q6, Q7, Q8, ge_iff_le, gt_iff_lt] at hc4
    refine WP.seq fun K5 hK5 => ?_
    refine WP.reg tabOk rfl ?_
    refine u_step (o_assign rfl ?_)
    refine u_step (o_assign rfl ?_)
    refine u_nil ?_
    refine hK5 _ ?_
    refine WP.ret ?_
    refine retT_ok ?_ (by omega) (fun _ _ => rfl)
    clear hK1 hK2 hK3 hK5
    have hq := hc4
    have hs : stepI s = -1 := by
      refine stepI_out ?_
      simp only [Bool.or_eq_true, Bool.and_eq_true, decide_eq_true_eq, beq_iff_eq] at hq
      rcases hq with (h | h) | ⟨h2, h⟩
      · exact .inl (by omega)
      · exact .inr (.inl (by omega))
      · exact .inr (.inr ⟨(zero_head (by omega)).1 h, by omega⟩)
    rw [idx_no hs]; rfl
  ·
    try simp only [Q0, Q1, Q2, Q3, Q4, Q5, Q6, Q7, Q8, ge_iff_le, gt_iff_lt] at hc4
    have hq := Bool.or_eq_false_iff.1 hc4
    have hq1 := Bool.or_eq_false_iff.1 hq.1
    have hl1 : 1 ≤ s.length := by have := hq1.1; simp at this; omega
    have hl3 : s.length ≤ 3 := by have := hq1.2; simp at this; omega
    refine WP.skip ?_
    refine hK2 _ ?_
    refine WP.seq fun K6 hK6 => ?_
    refine WP.reg tabOk rfl ?_
    refine u_step (o_assign rfl ?_)
    refine u_nil ?_
    refine hK6 _ ?_
    refine WP.seq fun K7 hK7 => ?_
    refine WP.seq fun K8 hK8 => ?_
    refine WP.reg tabOk rfl ?_
    refine u_step (o_move rfl ?_)
    refine u_step (g_range rfl th9 rfl fun o9 hb9 hk9 => ?_)
    refine u_nil ?_
    refine hK8 _ ?_
    refine WP.block ?_
    refine WP.loopL (ι := Nat × (Nat → Option AO)) (fun ⟨i, o2⟩ => ⟨al [(4, .d (.int .i64 (digN (s.take i) 0 : Nat))), (26, .raw nk)], o2, (nk + 1)⟩) (fun ⟨i, o2⟩ => i ≤ s.length ∧ o2 nk = some (.raw (itOb s i)) ∧ (∀ t, t < nk → o2 t = o t) ∧ (s.take i).all isDig = true) (fun ⟨i, o2⟩ => s.length - i) (fun ⟨i, o2⟩ hA => ?_) ⟨0, o9⟩ ?_ ?_
    ·
      obtain ⟨hle, hob, hfr, hin_i⟩ := hA
      refine WP.seq fun K10 hK10 => ?_
      refine WP.reg tabOk rfl ?_
      refine u_step (g_next rfl hob (fun hp11 o11 hb11 hk11 => ?_) (fun hp11 => ?_))
      ·
        refine u_step (o_ext rfl rfl ?_)
        refine u_nil ?_
        refine hK10 _ ?_
        refine WP.seq fun K12 hK12 => ?_
        refine WP.cond rfl (fun hc13 => ?_) (fun hc13 => by cases hc13)
        refine WP.skip ?_
        refine hK12 _ ?_
        refine WP.block ?_
        refine WP.seq fun K14 hK14 => ?_
        refine WP.reg tabOk rfl ?_
        refine u_step (o_ext rfl rfl ?_)
        refine u_step (o_assign rfl ?_)
        refine u_nil ?_
        refine hK14 _ ?_
        refine WP.seq fun K15 hK15 => ?_
        refine WP.seq fun K16 hK16 => ?_
        refine WP.reg tabOk rfl ?_
        refine u_step (o_move rfl ?_)
        refine u_step (o_bin_int rfl rfl (by decide) rfl ?_)
        refine u_step (o_move rfl ?_)
        apply u_guard
        · exact GC.f _
        · intro hg
          refine o_move rfl ⟨rfl, rfl, rfl⟩
        apply u_guard
        · exact GC.f _
        · intro hg; try simp only [hg, cnd_true]; try simp only [hg, cnd_true, Bool.true_and]
          refine o_bin_int rfl rfl (by decide) rfl ⟨rfl, rfl, rfl⟩
        refine u_step (o_pick_or rfl rfl rfl ?_)
        refine u_nil ?_
        refine hK16 _ ?_
        refine WP.cond rfl (fun hc17 => ?_) (fun hc17 => ?_)
        ·
          try simp only [Q0, Q1, Q2, Q3, Q4, Q5, Q6, Q7, Q8, ge_iff_le, gt_iff_lt] at hc17
          refine WP.seq fun K18 hK18 => ?_
          refine WP.reg tabOk rfl ?_
          refine u_step (o_assign rfl ?_)
          refine u_step (o_assign rfl ?_)
          refine u_nil ?_
          refine hK18 _ ?_
          refine WP.ret ?_
          refine retT_ok ?_ (by omega) (fun t ht => (hk11 t (by omega)).trans ((hfr t (by omega))))
          have hz : ¬ (s[0]? = some 48 ∧ 1 < s.length) := by
            rintro ⟨h, h2⟩
            have h3 := hq.2
            rw [(zero_head (by omega)).2 h] at h3
            simp at h3; omega
          have hb := hc17
          simp only [Bool.or_eq_true, decide_eq_true_eq] at hb
          have hd := dig_not (s := s) (i := i) (by omega) (by omega)
          have hs : stepI s = -1 := by rw [stepI_in hl1 hl3 hz, if_neg (by rw [all_false (p := isDig) (by omega) hd]; simp)]
          rw [idx_no hs]; rfl
        ·
          try simp only [Q0, Q1, Q2, Q3, Q4, Q5, Q6, Q7, Q8, ge_iff_le, gt_iff_lt] at hc17
          refine WP.skip ?_
          refine hK15 _ ?_
          refine WP.reg tabOk rfl ?_
          refine u_step (o_move rfl ?_)
          refine u_step (o_bin_int rfl rfl (by decide) rfl ?_)
          refine u_step (o_move rfl ?_)
          refine u_step (o_bin_int rfl rfl (by decide) rfl ?_)
          refine u_step (o_cv_int rfl th21 th3 rfl ?_)
          refine u_step (o_bin_int rfl rfl (by decide) rfl ?_)
          refine u_step (o_assign rfl ?_)
          refine u_nil ?_
          -- back
          have hb := Bool.or_eq_false_iff.1 hc17
          simp only [decide_eq_false_iff_not] at hb
          have hdd := dec_dig (s := s) (i := i) (by omega) (by omega)
          have hlt := digN_le hin_i (by simp; omega)
          have h9 := dig_step2 (n := digN (s.take i) 0) (c := (Utf8.decode ⟨s.toArray⟩ i).1) hlt (by omega) (by omega)
          have hd1 : s[i].toNat = (Utf8.decode ⟨s.toArray⟩ i).1 := by rw [hdd]
          refine ⟨⟨i + 1, o11⟩, ⟨by omega, ?_, (fun t ht => (hk11 t (by omega)).trans ((hfr t (by omega)))), ?_⟩, by simp only; omega, ?_⟩
          · have hft := hb11
            rw [hdd] at hft; exact hft
          · rw [all_snoc (by omega), hin_i]; simp only [isDig, Bool.true_and, Bool.and_eq_true, decide_eq_true_eq]; omega
          · refine Le.al ?_
            simp only [List.forall_mem_cons]
            refine ⟨?_, rfl, by simp⟩
            rw [take_snoc (by omega), digN_snoc, hd1, ← h9]
            rfl
      ·
        refine u_step (o_ext rfl rfl ?_)
        refine u_nil ?_
        refine hK10 _ ?_
        refine WP.seq fun K19 hK19 => ?_
        refine WP.cond rfl (fun hc20 => by cases hc20) (fun hc20 => ?_)
        refine WP.exit ?_
        refine hK7 _ ?_
        refine WP.seq fun K21 hK21 => ?_
        refine WP.reg tabOk rfl ?_
        refine u_step (o_move rfl ?_)
        refine u_step (o_assign rfl ?_)
        refine u_step (o_assign rfl ?_)
        refine u_nil ?_
        refine hK21 _ ?_
        refine WP.ret ?_
        refine retT_ok ?_ (by omega) (fun t ht => (hfr t (by omega)))
        have hz : ¬ (s[0]? = some 48 ∧ 1 < s.length) := by
          rintro ⟨h, h2⟩
          have h3 := hq.2
          rw [(zero_head (by omega)).2 h] at h3
          simp at h3; omega
        have h1 := all_true (by omega) hin_i
        have hs : stepI s = (digN (s.take i) 0 : Int) := by rw [stepI_in hl1 hl3 hz, if_pos h1, List.take_of_length_le (by omega)]
        rw [idx_at hs]; rfl
    ·
      refine ⟨by simp, hb9, (fun t ht => (hk9 t (by omega))), by simp⟩
    ·
      refine Le.al ?_
      simp only [List.forall_mem_cons]
      exact ⟨rfl, rfl, by simp⟩

end Go.Proofs.YtpkcbdhjnnnkbaaGreat.Abs

set_option linter.unusedVariables false
set_option linter.unusedSimpArgs false
set_option maxRecDepth 10000
namespace Go.Proofs.YtpkcbdhjnnnkbaaGreat.Abs
open Go
theorem cmpI_zero {a b : Int} : cmpI a b = 0 ↔ a = b := by unfold cmpI; split <;> (try split) <;> omega
theorem orI_zero {x : Int} {r : List Int} : orI (x :: r) = 0 ↔ x = 0 ∧ orI r = 0 := by
  simp only [orI]; split <;> simp_all
theorem cmpB_zero : ∀ {s t : Str}, Go.Lib.compareBytes s t = 0 ↔ s = t
  | [], [] => by simp [Go.Lib.compareBytes]
  | [], _ :: _ => by simp [Go.Lib.compareBytes]
  | _ :: _, [] => by simp [Go.Lib.compareBytes]
  | a :: s, b :: t => by
    have ih := cmpB_zero (s := s) (t := t)
    simp only [Go.Lib.compareBytes, List.cons.injEq]
    by_cases h1 : a < b
    · have : a ≠ b := fun e => by subst e; exact UInt8.lt_irrefl _ h1
      simp [h1, this]
    · by_cases h2 : b < a
      · have : a ≠ b := fun e => by subst e; exact UInt8.lt_irrefl _ h2
        simp [h1, h2, this]
      · have : a = b := UInt8.le_antisymm (UInt8.not_lt.1 h2) (UInt8.not_lt.1 h1)
        simp [h1, h2, this, ih]
mutual
/-- The order of two values that may be. -/
def cmpV : Val → Val → Int
  | .mk k i t xs ns, w => orI [cmpI k w.kind, cmpI i w.int, Go.Lib.compareBytes t w.text, cmpsV xs (decide (k = 7)) w.items ns w.names]
def cmpsV : List Val → Bool → List Val → List Str → List Str → Int
  | [], _, ys, _, _ => cmpI 0 ys.length
  | x :: xs, doc, ys, ns, ms => match ys with
    | [] => 1
    | y :: ys => orI [if doc = true then Go.Lib.compareBytes (ns.headD []) (ms.headD []) else 0, cmpV x y, cmpsV xs doc ys ns.tail ms.tail]
end
mutual
theorem cmpV_refl : ∀ v, cmpV v v = 0
  | .mk k i t xs ns => by
    have h := cmpsV_refl xs (decide (k = 7)) ns
    rw [cmpV]
    simp only [Val.kind, Val.int, Val.text, Val.items, Val.names, orI_zero, h, cmpI_zero.2 rfl, cmpB_zero.2 rfl]
    simp [orI]
theorem cmpsV_refl : ∀ xs doc ns, cmpsV xs doc xs ns ns = 0
  | [], _, _ => by rw [cmpsV]; rfl
  | x :: xs, doc, ns => by
    have h1 := cmpV_refl x
    have h2 := cmpsV_refl xs doc ns.tail
    rw [cmpsV]
    simp only [orI_zero, h1, h2, cmpB_zero.2 rfl]
    simp [orI]
end
mutual
theorem cmpV_eq : ∀ (v w : Val), mayV v = true → mayV w = true → cmpV v w = 0 → v = w
  | .mk k i t xs ns, .mk k' i' t' ys ms, hv, hw, h => by
    rw [cmpV] at h
    simp only [Val.kind, Val.int, Val.text, Val.items, Val.names, orI_zero, cmpI_zero, cmpB_zero] at h
    obtain ⟨rfl, rfl, rfl, h4, _⟩ := h
    have hm1 : maysV xs = true := by rw [mayV] at hv; simp at hv; exact hv.1.1
    have hm2 : maysV ys = true := by rw [mayV] at hw; simp at hw; exact hw.1.1
    obtain ⟨rfl, h6⟩ := cmpsV_eq xs ys hm1 hm2 _ _ _ h4
    have hn : ns = ms := by
      by_cases hk : k = 7
      · subst hk
        exact h6 (by simp) (may7 hv) (may7 hw)
      · rw [mayV] at hv hw
        simp only [Bool.and_eq_true, kindOk] at hv hw
        have h1 := hv.2
        have h2 := hw.2
        have : ns.length = 0 ∧ ms.length = 0 := by
          constructor
          · grind
          · grind
        rw [List.eq_nil_of_length_eq_zero this.1, List.eq_nil_of_length_eq_zero this.2]
    rw [hn]
theorem cmpsV_eq : ∀ (xs ys : List Val), maysV xs = true → maysV ys = true → ∀ (doc : Bool) (ns ms : List Str), cmpsV xs doc ys ns ms = 0 → xs = ys ∧ (doc = true → ns.length = xs.length → ms.length = ys.length → ns = ms)
  | [], ys, _, _, doc, ns, ms, h => by
    rw [cmpsV, cmpI_zero] at h
    have : ys = [] := List.eq_nil_of_length_eq_zero (by omega)
    subst this
    exact ⟨rfl, fun _ h1 h2 => by rw [List.eq_nil_of_length_eq_zero h1, List.eq_nil_of_length_eq_zero h2]⟩
  | x :: xs, [], _, _, doc, ns, ms, h => by rw [cmpsV] at h; cases h
  | x :: xs, y :: ys, hx, hy, doc, ns, ms, h => by
    rw [cmpsV] at h
    simp only [orI_zero] at h
    obtain ⟨h1, h2, h3, _⟩ := h
    simp only [maysV, Bool.and_eq_true] at hx hy
    have e1 := cmpV_eq x y hx.1 hy.1 h2
    obtain ⟨e2, e3⟩ := cmpsV_eq xs ys hx.2 hy.2 doc ns.tail ms.tail h3
    refine ⟨by rw [e1, e2], fun hd l1 l2 => ?_⟩
    rw [if_pos hd, cmpB_zero] at h1
    cases ns with
    | nil => simp at l1
    | cons n ns =>
      cases ms with
      | nil => simp at l2
      | cons m ms =>
        simp only [List.headD_cons] at h1
        have e4 : ns = ms := e3 hd (by simpa using l1) (by simpa using l2)
        rw [h1, e4]
end
/-- The order of any two values. -/
def compV (v w : Val) : Int := if mayV v = true then (if mayV w = true then cmpV v w else 1) else if mayV w = true then -1 else 0
theorem comp_same {v w : Val} (hv : mayV v = true) (hw : mayV w = true) : decide (compV v w = 0) = sameV v w := by
  unfold compV
  rw [if_pos hv, if_pos hw, Bool.eq_iff_iff]
  simp only [decide_eq_true_eq, same_eq]
  exact ⟨fun h => cmpV_eq v w hv hw h, fun h => by rw [h]; exact cmpV_refl w⟩
theorem orI_ne {a b c d : Int} (h : orI [a, b, c] ≠ 0) : orI [a, b, c, d] = orI [a, b, c] := by
  simp only [orI] at *
  split <;> (try split) <;> (try split) <;> simp_all
theorem orI_eq {a b c d : Int} (h : orI [a, b, c] = 0) : orI [a, b, c, d] = d := by
  simp only [orI_zero] at h
  obtain ⟨rfl, rfl, rfl, _⟩ := h
  simp [orI]
  exact fun h => h.symm
theorem cmps_step {xs ys : List Val} {ns ms : List Str} {doc : Bool} {i : Nat} (hx : i < xs.length) (hy : i < ys.length) :
    cmpsV (xs.drop i) doc (ys.drop i) (ns.drop i) (ms.drop i) = orI [if doc = true then Go.Lib.compareBytes (ns.getD i []) (ms.getD i []) else 0, cmpV (xs[i]'hx) (ys[i]'hy), cmpsV (xs.drop (i + 1)) doc (ys.drop (i + 1)) (ns.drop (i + 1)) (ms.drop (i + 1))] := by
  rw [List.drop_eq_getElem_cons hx, List.drop_eq_getElem_cons hy, cmpsV]
  simp only [List.headD_eq_head?_getD, List.head?_drop, List.getD_eq_getElem?_getD, List.tail_drop]
theorem cmps_end {xs ys : List Val} {ns ms : List Str} {doc : Bool} {i : Nat} (h : ¬ (i < xs.length ∧ i < ys.length)) (h1 : i ≤ xs.length) (h2 : i ≤ ys.length) :
    cmpsV (xs.drop i) doc (ys.drop i) (ns.drop i) (ms.drop i) = cmpI xs.length ys.length := by
  by_cases hx : i < xs.length
  · have hy : ys.length = i := by omega
    have e : ys.drop i = [] := List.drop_eq_nil_of_le (by omega)
    rw [List.drop_eq_getElem_cons hx, e, cmpsV]
    unfold cmpI
    rw [if_neg (by omega), if_pos (by omega)]
  · have e : xs.drop i = [] := List.drop_eq_nil_of_le (by omega)
    rw [e, cmpsV, List.length_drop]
    unfold cmpI
    split <;> split <;> (try split) <;> omega
theorem may7n {k i : Int} {t : Str} {xs : List Val} {ns : List Str} (h : mayV (.mk k i t xs ns) = true) (hk : k = 7) : ns.length = xs.length := by subst hk; exact may7 h

theorem fn202 : FnOk Tryz.prog 202 78 [4] (bodyOf Tryz.f202) := ⟨Tryz.f202, Tryz.func202, by kernel_rfl, by decide, by kernel_rfl, by kernel_rfl⟩
theorem s202A (m : Nat) : ∀ (v w : Val), SizeOf.sizeOf v < m → mayV v = true → mayV w = true → PSpec Tryz.prog 202 [.d (encV v), .d (encV w)] (.d (.int .i64 (cmpV v w))) := by
  induction m with
  | zero => intros; omega
  | succ m ih =>
    rintro ⟨kd, it, tx, xs, ns⟩ ⟨kd2, it2, tx2, ys, ms⟩ hv hmv hmw
    refine PSpec.bd fun hbd => ?_
    have hx : xs.length ≤ 9223372036854775807 := by simpa [encVs_length] using hbd.1.2.2.2.1.1
    have hy : ys.length ≤ 9223372036854775807 := by simpa [encVs_length] using hbd.2.1.2.2.2.1.1
    refine PSpec.of fn202 (by simp) fun o nk => ?_
    refine WP.seq fun K1 hK1 => ?_
    refine WP.reg tabOk rfl ?_
    refine u_step (g_box rfl fun o2 hb2 hk2 => ?_)
    refine u_step (g_box rfl fun o3 hb3 hk3 => ?_)
    have hb2_3 := (hk3 _ (by omega)).trans hb2
    refine u_step (o_assign rfl ?_)
    refine u_nil ?_
    refine hK1 _ ?_
    refine WP.seq fun K4 hK4 => ?_
    refine WP.seq fun K5 hK5 => ?_
    refine WP.drw tabOk (by kernel_rfl) rfl (by kernel_rfl) ?_
    refine d_step (o_fa_loc rfl th27 rfl rfl th3 (by decide) hb2_3 ⟨rfl, rfl, rfl⟩) ?_
    refine d_step (o_ld_loc rfl th3 rfl hb2_3 rfl ⟨rfl, rfl, rfl⟩) ?_
    refine d_step (o_fa_loc rfl th27 rfl rfl th3 (by decide) hb3 ⟨rfl, rfl, rfl⟩) ?_
    refine d_step (o_ld_loc rfl th3 rfl hb3 rfl ⟨rfl, rfl, rfl⟩) ?_
    refine d_step (o_pcall (s206 _ _) rfl ⟨rfl, rfl, rfl⟩) ?_
    refine d_step (o_fa_loc rfl th27 rfl rfl th3 (by decide) hb2_3 ⟨rfl, rfl, rfl⟩) ?_
    refine d_step (o_ld_loc rfl th3 rfl hb2_3 rfl ⟨rfl, rfl, rfl⟩) ?_
    refine d_step (o_fa_loc rfl th27 rfl rfl th3 (by decide) hb3 ⟨rfl, rfl, rfl⟩) ?_
    refine d_step (o_ld_loc rfl th3 rfl hb3 rfl ⟨rfl, rfl, rfl⟩) ?_
    refine d_step (o_pcall (s206 _ _) rfl ⟨rfl, rfl, rfl⟩) ?_
    refine d_step (o_fa_loc rfl th27 rfl rfl th9 (by decide) hb2_3 ⟨rfl, rfl, rfl⟩) ?_
    refine d_step (o_ld_loc rfl th9 rfl hb2_3 rfl ⟨rfl, rfl, rfl⟩) ?_
    refine d_step (o_fa_loc rfl th27 rfl rfl th9 (by decide) hb3 ⟨rfl, rfl, rfl⟩) ?_
    refine d_step (o_ld_loc rfl th9 rfl hb3 rfl ⟨rfl, rfl, rfl⟩) ?_
    refine d_step (o_pcall (s207 _ _) rfl ⟨rfl, rfl, rfl⟩) ?_
    refine d_step (o_bs rfl th37 rfl th3 rfl rfl (by decide) rfl (by decide) (by decide) ⟨rfl, rfl, rfl⟩) ?_
    refine d_step (o_pcall (s205 [cmpI kd kd2, cmpI it it2, Go.Lib.compareBytes tx tx2]) rfl ⟨rfl, rfl, rfl⟩) ?_
    refine d_step (o_assign rfl ⟨rfl, rfl, rfl⟩) ?_
    refine d_nil ?_
    refine hK5 _ ?_
    refine WP.seq fun K6 hK6 => ?_
    refine WP.reg tabOk rfl ?_
    refine u_step (o_move rfl ?_)
    refine u_step (o_bin_int rfl rfl (by decide) rfl ?_)
    refine u_nil ?_
    refine hK6 _ ?_
    refine WP.cond rfl (fun hc7 => ?_) (fun hc7 => ?_)
    ·
      try simp only [Q0, Q1, Q2, Q3, Q4, Q5, Q6, Q7, Q8, ge_iff_le, gt_iff_lt] at hc7
      refine WP.seq fun K8 hK8 => ?_
      refine WP.reg tabOk rfl ?_
      refine u_step (o_move rfl ?_)
      refine u_step (o_assign rfl ?_)
      refine u_nil ?_
      refine hK8 _ ?_
      refine WP.ret ?_
      refine ret_ok rfl ?_ (by omega) (fun t ht => (hk3 t (by omega)).trans ((hk2 t (by omega))))
      -- ret 1
      clear hK1 hK4 hK5 hK6 hK8
      refine congrArg (D.int .i64) ?_
      rw [cmpV]
      exact (orI_ne (by simpa using hc7)).symm
    ·
      try simp only [Q0, Q1, Q2, Q3, Q4, Q5, Q6, Q7, Q8, ge_iff_le, gt_iff_lt] at hc7
      have hq0 : orI [cmpI kd kd2, cmpI it it2, Go.Lib.compareBytes tx tx2] = 0 := by simpa using hc7
      have hq := hq0
      simp only [orI_zero, cmpI_zero, cmpB_zero] at hq
      obtain ⟨rfl, rfl, rfl, _⟩ := hq
      have hcm : cmpV (.mk kd it tx xs ns) (.mk kd it tx ys ms) = cmpsV xs (decide (kd = 7)) ys ns ms := by rw [cmpV]; exact orI_eq hq0
      refine WP.skip ?_
      refine hK4 _ ?_
      refine WP.seq fun K9 hK9 => ?_
      refine WP.seq fun K10 hK10 => ?_
      refine WP.reg tabOk rfl ?_
      refine u_step (o_fa_loc rfl th27 rfl rfl th25 (by decide) hb2_3 ?_)
      refine u_step (o_ld_loc rfl th25 rfl hb2_3 rfl ?_)
      refine u_step (o_len_sl rfl th25 rfl ?_)
      refine u_step (o_fa_loc rfl th27 rfl rfl th25 (by decide) hb3 ?_)
      refine u_step (o_ld_loc rfl th25 rfl hb3 rfl ?_)
      refine u_step (o_len_sl rfl th25 rfl ?_)
      refine u_step (o_mm (by decide) rfl ?_)
      refine u_step (o_move rfl ?_)
      refine u_nil ?_
      refine hK10 _ ?_
      refine WP.block ?_
      refine WP.loopL (ι := Nat) (fun i => ⟨al [(2, .loc nk 0), (3, .loc (nk + 1) 0), (35, .d (.int .i64 (if ((encVs ys).length : Int) < ((encVs xs).length : Int) then ((encVs ys).length : Int) else ((encVs xs).length : Int)))), (36, .d (.int .i64 i))], o3, ((nk + 1) + 1)⟩) (fun i => i ≤ xs.length ∧ i ≤ ys.length ∧ cmpV (.mk kd it tx xs ns) (.mk kd it tx ys ms) = cmpsV (xs.drop i) (decide (kd = 7)) (ys.drop i) (ns.drop i) (ms.drop i)) (fun i => xs.length - i) (fun i hA => ?_) 0 ?_ ?_
      ·
        obtain ⟨hi1, hi2, hin⟩ := hA
        refine WP.seq fun K11 hK11 => ?_
        refine WP.reg tabOk rfl ?_
        refine u_step (o_bin_int rfl rfl (by decide) rfl ?_)
        refine u_nil ?_
        refine hK11 _ ?_
        refine WP.seq fun K12 hK12 => ?_
        refine WP.cond rfl (fun hc13 => ?_) (fun hc13 => ?_)
        ·
          try simp only [Q0, Q1, Q2, Q3, Q4, Q5, Q6, Q7, Q8, ge_iff_le, gt_iff_lt] at hc13
          have hlt : i < xs.length ∧ i < ys.length := by have := hc13; (try simp only [encVs_length] at this); constructor <;> (split at this <;> omega)
          have hst := cmps_step (xs := xs) (ys := ys) (ns := ns) (ms := ms) (doc := decide (kd = 7)) hlt.1 hlt.2
          refine WP.skip ?_
          refine hK12 _ ?_
          refine WP.seq fun K14 hK14 => ?_
          refine WP.block ?_
          refine WP.seq fun K15 hK15 => ?_
          refine WP.reg tabOk rfl ?_
          refine u_step (o_move rfl ?_)
          refine u_step (o_assign rfl ?_)
          refine u_nil ?_
          refine hK15 _ ?_
          refine WP.seq fun K16 hK16 => ?_
          refine WP.seq fun K17 hK17 => ?_
          refine WP.reg tabOk rfl ?_
          refine u_step (o_fa_loc rfl th27 rfl rfl th3 (by decide) hb2_3 ?_)
          refine u_step (o_ld_loc rfl th3 rfl hb2_3 rfl ?_)
          refine u_step (o_bin_int rfl rfl (by decide) rfl ?_)
          refine u_nil ?_
          refine hK17 _ ?_
          refine WP.cond rfl (fun hc18 => ?_) (fun hc18 => ?_)
          ·
            try simp only [Q0, Q1, Q2, Q3, Q4, Q5, Q6, Q7, Q8, ge_iff_le, gt_iff_lt] at hc18
            have hk7 : kd = 7 := by simpa using hc18
            have hln : ns.length = xs.length := may7n hmv hk7
            have hlm : ms.length = ys.length := may7n hmw hk7
            have hdc : decide (kd = 7) = true := by simp [hk7]
            have e1 : ns.getD i [] = ns[i] := by simp [show i < ns.length by omega]
            have e2 : ms.getD i [] = ms[i] := by simp [show i < ms.length by omega]
            refine WP.seq fun K19 hK19 => ?_
            refine WP.drw tabOk (by kernel_rfl) rfl (by kernel_rfl) ?_
            refine d_step (o_fa_loc rfl th27 rfl rfl th22 (by decide) hb2_3 ⟨rfl, rfl, rfl⟩) ?_
            refine d_step (o_ld_loc rfl th22 rfl hb2_3 rfl ⟨rfl, rfl, rfl⟩) ?_
            refine d_step (o_move rfl ⟨rfl, rfl, rfl⟩) ?_
            first | refine d_step (o_ia_map rfl rfl th22 rfl th9 rfl (by omega) ⟨rfl, rfl, rfl⟩) ?_ | refine d_step (o_ia_vs rfl rfl th22 rfl th9 rfl (by omega) ⟨rfl, rfl, rfl⟩) ?_
            refine d_step (o_ld_el rfl th9 (by first | rfl | simp only [encV_leaf, encV_width, Bool.not_true, TK.agg]) (by first | rfl | simp only [encV_leaf, encV_width, Bool.not_true, TK.agg]) ⟨rfl, rfl, rfl⟩) ?_
            refine d_step (o_fa_loc rfl th27 rfl rfl th22 (by decide) hb3 ⟨rfl, rfl, rfl⟩) ?_
            refine d_step (o_ld_loc rfl th22 rfl hb3 rfl ⟨rfl, rfl, rfl⟩) ?_
            refine d_step (o_move rfl ⟨rfl, rfl, rfl⟩) ?_
            first | refine d_step (o_ia_map rfl rfl th22 rfl th9 rfl (by omega) ⟨rfl, rfl, rfl⟩) ?_ | refine d_step (o_ia_vs rfl rfl th22 rfl th9 rfl (by omega) ⟨rfl, rfl, rfl⟩) ?_
            refine d_step (o_ld_el rfl th9 (by first | rfl | simp only [encV_leaf, encV_width, Bool.not_true, TK.agg]) (by first | rfl | simp only [encV_leaf, encV_width, Bool.not_true, TK.agg]) ⟨rfl, rfl, rfl⟩) ?_
            refine d_step (o_pcall (s207 _ _) rfl ⟨rfl, rfl, rfl⟩) ?_
            refine d_step (o_assign rfl ⟨rfl, rfl, rfl⟩) ?_
            refine d_nil ?_
            refine hK19 _ ?_
            refine WP.seq fun K20 hK20 => ?_
            refine WP.reg tabOk rfl ?_
            refine u_step (o_move rfl ?_)
            refine u_step (o_bin_int rfl rfl (by decide) rfl ?_)
            refine u_nil ?_
            refine hK20 _ ?_
            refine WP.cond rfl (fun hc21 => ?_) (fun hc21 => ?_)
            ·
              try simp only [Q0, Q1, Q2, Q3, Q4, Q5, Q6, Q7, Q8, ge_iff_le, gt_iff_lt] at hc21
              refine WP.seq fun K22 hK22 => ?_
              refine WP.reg tabOk rfl ?_
              refine u_step (o_move rfl ?_)
              refine u_step (o_assign rfl ?_)
              refine u_nil ?_
              refine hK22 _ ?_
              refine WP.ret ?_
              refine ret_ok rfl ?_ (by omega) (fun t ht => (hk3 t (by omega)).trans ((hk2 t (by omega))))
              -- ret 2
              clear hK1 hK4 hK5 hK6 hK9 hK10 hK11 hK12 hK14 hK15 hK16 hK17 hK19 hK20 hK22
              refine congrArg (D.int .i64) ?_
              rw [hin, hst, if_pos hdc, e1, e2]
              have hl := hc21
              simp only [orI]
              rw [if_neg (by simpa using hl)]
            ·
              try simp only [Q0, Q1, Q2, Q3, Q4, Q5, Q6, Q7, Q8, ge_iff_le, gt_iff_lt] at hc21
              have hX : (if decide (kd = 7) = true then Go.Lib.compareBytes (ns.getD i []) (ms.getD i []) else 0) = 0 := by rw [if_pos hdc, e1, e2]; simpa using hc21
              refine WP.skip ?_
              refine hK16 _ ?_
              refine WP.seq fun K23 hK23 => ?_
              refine WP.drw tabOk (by kernel_rfl) rfl (by kernel_rfl) ?_
              refine d_step (o_fa_loc rfl th27 rfl rfl th25 (by decide) hb2_3 ⟨rfl, rfl, rfl⟩) ?_
              refine d_step (o_ld_loc rfl th25 rfl hb2_3 rfl ⟨rfl, rfl, rfl⟩) ?_
              refine d_step (o_move rfl ⟨rfl, rfl, rfl⟩) ?_
              first | refine d_step (o_ia_map rfl rfl th25 rfl th27 rfl (by omega) ⟨rfl, rfl, rfl⟩) ?_ | refine d_step (o_ia_vs rfl rfl th25 rfl th27 rfl (by omega) ⟨rfl, rfl, rfl⟩) ?_
              refine d_step (o_ld_el rfl th27 (by first | rfl | simp only [encV_leaf, encV_width, Bool.not_true, TK.agg]) (by first | rfl | simp only [encV_leaf, encV_width, Bool.not_true, TK.agg]) ⟨rfl, rfl, rfl⟩) ?_
              refine d_step (o_fa_loc rfl th27 rfl rfl th25 (by decide) hb3 ⟨rfl, rfl, rfl⟩) ?_
              refine d_step (o_ld_loc rfl th25 rfl hb3 rfl ⟨rfl, rfl, rfl⟩) ?_
              refine d_step (o_move rfl ⟨rfl, rfl, rfl⟩) ?_
              first | refine d_step (o_ia_map rfl rfl th25 rfl th27 rfl (by omega) ⟨rfl, rfl, rfl⟩) ?_ | refine d_step (o_ia_vs rfl rfl th25 rfl th27 rfl (by omega) ⟨rfl, rfl, rfl⟩) ?_
              refine d_step (o_ld_el rfl th27 (by first | rfl | simp only [encV_leaf, encV_width, Bool.not_true, TK.agg]) (by first | rfl | simp only [encV_leaf, encV_width, Bool.not_true, TK.agg]) ⟨rfl, rfl, rfl⟩) ?_
              refine d_step (o_pcall (ih _ _ (by exact items_lt' (by omega) hv) (by exact may_items hmv (by omega)) (by exact may_items hmw (by omega))) rfl ⟨rfl, rfl, rfl⟩) ?_
              refine d_step (o_assign rfl ⟨rfl, rfl, rfl⟩) ?_
              refine d_nil ?_
              refine hK23 _ ?_
              refine WP.seq fun K24 hK24 => ?_
              refine WP.reg tabOk rfl ?_
              refine u_step (o_move rfl ?_)
              refine u_step (o_bin_int rfl rfl (by decide) rfl ?_)
              refine u_nil ?_
              refine hK24 _ ?_
              refine WP.cond rfl (fun hc25 => ?_) (fun hc25 => ?_)
              ·
                try simp only [Q0, Q1, Q2, Q3, Q4, Q5, Q6, Q7, Q8, ge_iff_le, gt_iff_lt] at hc25
                refine WP.seq fun K26 hK26 => ?_
                refine WP.reg tabOk rfl ?_
                refine u_step (o_move rfl ?_)
                refine u_step (o_assign rfl ?_)
                refine u_nil ?_
                refine hK26 _ ?_
                refine WP.ret ?_
                refine ret_ok rfl ?_ (by omega) (fun t ht => (hk3 t (by omega)).trans ((hk2 t (by omega))))
                -- ret 3
                clear hK1 hK4 hK5 hK6 hK9 hK10 hK11 hK12 hK14 hK15 hK16 hK17 hK19 hK20 hK23 hK24 hK26
                refine congrArg (D.int .i64) ?_
                have hl := hc25
                rw [hin, hst, hX]
                simp only [orI, if_true]
                rw [if_neg (by simpa using hl)]
              ·
                try simp only [Q0, Q1, Q2, Q3, Q4, Q5, Q6, Q7, Q8, ge_iff_le, gt_iff_lt] at hc25
                refine WP.skip ?_
                refine hK14 _ ?_
                refine WP.reg tabOk rfl ?_
                refine u_step (o_bin_int rfl rfl (by decide) rfl ?_)
                refine u_step (o_move rfl ?_)
                refine u_nil ?_
                -- back
                have hl := hc25
                refine ⟨i + 1, ⟨by omega, by omega, ?_⟩, by omega, ?_⟩
                · rw [hin, hst, hX, show cmpV xs[i] ys[i] = 0 from by simpa using hl]
                  simp only [orI, if_true]
                  split
                  · rename_i h0; exact h0.symm
                  · rfl
                · refine Le.al ?_
                  simp only [List.forall_mem_cons]
                  exact ⟨rfl, rfl, rfl, cnt (by omega), by simp⟩
          ·
            try simp only [Q0, Q1, Q2, Q3, Q4, Q5, Q6, Q7, Q8, ge_iff_le, gt_iff_lt] at hc18
            have hdc : decide (kd = 7) = false := by simpa using hc18
            have hX : (if decide (kd = 7) = true then Go.Lib.compareBytes (ns.getD i []) (ms.getD i []) else 0) = 0 := by rw [hdc]; rfl
            refine WP.skip ?_
            refine hK16 _ ?_
            refine WP.seq fun K27 hK27 => ?_
            refine WP.drw tabOk (by kernel_rfl) rfl (by kernel_rfl) ?_
            refine d_step (o_fa_loc rfl th27 rfl rfl th25 (by decide) hb2_3 ⟨rfl, rfl, rfl⟩) ?_
            refine d_step (o_ld_loc rfl th25 rfl hb2_3 rfl ⟨rfl, rfl, rfl⟩) ?_
            refine d_step (o_move rfl ⟨rfl, rfl, rfl⟩) ?_
            first | refine d_step (o_ia_map rfl rfl th25 rfl th27 rfl (by omega) ⟨rfl, rfl, rfl⟩) ?_ | refine d_step (o_ia_vs rfl rfl th25 rfl th27 rfl (by omega) ⟨rfl, rfl, rfl⟩) ?_
            refine d_step (o_ld_el rfl th27 (by first | rfl | simp only [encV_leaf, encV_width, Bool.not_true, TK.agg]) (by first | rfl | simp only [encV_leaf, encV_width, Bool.not_true, TK.agg]) ⟨rfl, rfl, rfl⟩) ?_
            refine d_step (o_fa_loc rfl th27 rfl rfl th25 (by decide) hb3 ⟨rfl, rfl, rfl⟩) ?_
            refine d_step (o_ld_loc rfl th25 rfl hb3 rfl ⟨rfl, rfl, rfl⟩) ?_
            refine d_step (o_move rfl ⟨rfl, rfl, rfl⟩) ?_
            first | refine d_step (o_ia_map rfl rfl th25 rfl th27 rfl (by omega) ⟨rfl, rfl, rfl⟩) ?_ | refine d_step (o_ia_vs rfl rfl th25 rfl th27 rfl (by omega) ⟨rfl, rfl, rfl⟩) ?_
            refine d_step (o_ld_el rfl th27 (by first | rfl | simp only [encV_leaf, encV_width, Bool.not_true, TK.agg]) (by first | rfl | simp only [encV_leaf, encV_width, Bool.not_true, TK.agg]) ⟨rfl, rfl, rfl⟩) ?_
            refine d_step (o_pcall (ih _ _ (by exact items_lt' (by omega) hv) (by exact may_items hmv (by omega)) (by exact may_items hmw (by omega))) rfl ⟨rfl, rfl, rfl⟩) ?_
            refine d_step (o_assign rfl ⟨rfl, rfl, rfl⟩) ?_
            refine d_nil ?_
            refine hK27 _ ?_
            refine WP.seq fun K28 hK28 => ?_
            refine WP.reg tabOk rfl ?_
            refine u_step (o_move rfl ?_)
            refine u_step (o_bin_int rfl rfl (by decide) rfl ?_)
            refine u_nil ?_
            refine hK28 _ ?_
            refine WP.cond rfl (fun hc29 => ?_) (fun hc29 => ?_)
            ·
              try simp only [Q0, Q1, Q2, Q3, Q4, Q5, Q6, Q7, Q8, ge_iff_le, gt_iff_lt] at hc29
              refine WP.seq fun K30 hK30 => ?_
              refine WP.reg tabOk rfl ?_
              refine u_step (o_move rfl ?_)
              refine u_step (o_assign rfl ?_)
              refine u_nil ?_
              refine hK30 _ ?_
              refine WP.ret ?_
              refine ret_ok rfl ?_ (by omega) (fun t ht => (hk3 t (by omega)).trans ((hk2 t (by omega))))
              -- ret 4
              clear hK1 hK4 hK5 hK6 hK9 hK10 hK11 hK12 hK14 hK15 hK16 hK17 hK27 hK28 hK30
              refine congrArg (D.int .i64) ?_
              have hl := hc29
              rw [hin, hst, hX]
              simp only [orI, if_true]
              rw [if_neg (by simpa using hl)]
            ·
              try simp only [Q0, Q1, Q2, Q3, Q4, Q5, Q6, Q7, Q8, ge_iff_le, gt_iff_lt] at hc29
              refine WP.skip ?_
              refine hK14 _ ?_
              refine WP.reg tabOk rfl ?_
              refine u_step (o_bin_int rfl rfl (by decide) rfl ?_)
              refine u_step (o_move rfl ?_)
              refine u_nil ?_
              -- back
              have hl := hc29
              refine ⟨i + 1, ⟨by omega, by omega, ?_⟩, by omega, ?_⟩
              · rw [hin, hst, hX, show cmpV xs[i] ys[i] = 0 from by simpa using hl]
                simp only [orI, if_true]
                split
                · rename_i h0; exact h0.symm
                · rfl
              · refine Le.al ?_
                simp only [List.forall_mem_cons]
                exact ⟨rfl, rfl, rfl, cnt (by omega), by simp⟩
        ·
          try simp only [Q0, Q1, Q2, Q3, Q4, Q5, Q6, Q7, Q8, ge_iff_le, gt_iff_lt] at hc13
          have hend := cmps_end (xs := xs) (ys := ys) (ns := ns) (ms := ms) (doc := decide (kd = 7)) (i := i) (by have := hc13; (try simp only [encVs_length] at this); rintro ⟨h1, h2⟩; split at this <;> omega) (by omega) (by omega)
          refine WP.exit ?_
          refine hK9 _ ?_
          refine WP.seq fun K31 hK31 => ?_
          refine WP.reg tabOk rfl ?_
          refine u_step (o_fa_loc rfl th27 rfl rfl th25 (by decide) hb2_3 ?_)
          refine u_step (o_ld_loc rfl th25 rfl hb2_3 rfl ?_)
          refine u_step (o_len_sl rfl th25 rfl ?_)
          refine u_step (o_fa_loc rfl th27 rfl rfl th25 (by decide) hb3 ?_)
          refine u_step (o_ld_loc rfl th25 rfl hb3 rfl ?_)
          refine u_step (o_len_sl rfl th25 rfl ?_)
          refine u_step (o_pcall (s206 _ _) rfl ?_)
          refine u_step (o_assign rfl ?_)
          refine u_nil ?_
          refine hK31 _ ?_
          refine WP.ret ?_
          refine ret_ok rfl ?_ (by omega) (fun t ht => (hk3 t (by omega)).trans ((hk2 t (by omega))))
          -- ret 5
          clear hK1 hK4 hK5 hK6 hK9 hK10 hK11 hK12 hK31
          refine congrArg (D.int .i64) ?_
          rw [hin, hend]
          simp only [encVs_length]
      ·
        exact ⟨by omega, by omega, by simpa using hcm⟩
      ·
        refine Le.al ?_
        simp only [List.forall_mem_cons]
        exact ⟨rfl, rfl, rfl, rfl, by simp⟩
theorem s202 (v w : Val) (hmv : mayV v = true) (hmw : mayV w = true) : PSpec Tryz.prog 202 [.d (encV v), .d (encV w)] (.d (.int .i64 (cmpV v w))) := s202A _ v w (Nat.lt_succ_self _) hmv hmw

theorem fn194 : FnOk Tryz.prog 194 23 [4] (bodyOf Tryz.f194) := ⟨Tryz.f194, Tryz.func194, by kernel_rfl, by decide, by kernel_rfl, by kernel_rfl⟩
theorem s194 (v w : Val) : PSpec Tryz.prog 194 [.d (encV v), .d (encV w)] (.d (.int .i64 (compV v w))) := by
  obtain ⟨kd, it, tx, xs, ns⟩ := v
  obtain ⟨kd2, it2, tx2, ys, ms⟩ := w
  refine PSpec.of fn194 (by simp) fun o nk => ?_
  refine WP.seq fun K1 hK1 => ?_
  refine WP.reg tabOk rfl ?_
  refine u_step (g_box rfl fun o2 hb2 hk2 => ?_)
  refine u_step (g_box rfl fun o3 hb3 hk3 => ?_)
  have hb2_3 := (hk3 _ (by omega)).trans hb2
  refine u_step (o_assign rfl ?_)
  refine u_nil ?_
  refine hK1 _ ?_
  refine WP.seq fun K4 hK4 => ?_
  refine WP.seq fun K5 hK5 => ?_
  refine WP.drw tabOk (by kernel_rfl) rfl (by kernel_rfl) ?_
  refine d_step (o_ld_agg rfl th27 rfl hb2_3 rfl rfl rfl ⟨rfl, rfl, rfl⟩) ?_
  refine d_step (o_pcall (s76 (.mk kd it tx xs ns)) rfl ⟨rfl, rfl, rfl⟩) ?_
  refine d_step (o_ld_agg rfl th27 rfl hb3 rfl rfl rfl ⟨rfl, rfl, rfl⟩) ?_
  refine d_step (o_pcall (s76 (.mk kd2 it2 tx2 ys ms)) rfl ⟨rfl, rfl, rfl⟩) ?_
  refine d_step (o_assign rfl ⟨rfl, rfl, rfl⟩) ?_
  refine d_step (o_assign rfl ⟨rfl, rfl, rfl⟩) ?_
  refine d_nil ?_
  refine hK5 _ ?_
  refine WP.block ?_
  refine WP.seq fun K6 hK6 => ?_
  refine WP.reg tabOk rfl ?_
  refine u_step (o_move rfl ?_)
  refine u_step (o_move rfl ?_)
  apply u_guard
  · exact GC.t _
  · intro hg
    refine o_move rfl ⟨rfl, rfl, rfl⟩
  refine u_step (o_pick_and rfl rfl rfl ?_)
  refine u_step (o_assign rfl ?_)
  refine u_nil ?_
  refine hK6 _ ?_
  refine WP.cond rfl (fun hc7 => ?_) (fun hc7 => ?_)
  ·
    try simp only [Q0, Q1, Q2, Q3, Q4, Q5, Q6, Q7, Q8, ge_iff_le, gt_iff_lt] at hc7
    refine WP.seq fun K8 hK8 => ?_
    refine WP.reg tabOk rfl ?_
    refine u_step (o_ld_agg rfl th27 rfl hb2_3 rfl rfl rfl ?_)
    refine u_step (o_ld_agg rfl th27 rfl hb3 rfl rfl rfl ?_)
    refine u_step (o_pcall (s202 (.mk kd it tx xs ns) (.mk kd2 it2 tx2 ys ms) (by have := hc7; simp at this; exact this.1) (by have := hc7; simp at this; exact this.2)) rfl ?_)
    refine u_step (o_assign rfl ?_)
    refine u_nil ?_
    refine hK8 _ ?_
    refine WP.ret ?_
    refine ret_ok rfl ?_ (by omega) (fun t ht => (hk3 t (by omega)).trans ((hk2 t (by omega))))
    -- ret 1
    clear hK1 hK4 hK5 hK6 hK8
    refine congrArg (D.int .i64) ?_
    simp only [compV]
    grind
  ·
    try simp only [Q0, Q1, Q2, Q3, Q4, Q5, Q6, Q7, Q8, ge_iff_le, gt_iff_lt] at hc7
    refine WP.seq fun K9 hK9 => ?_
    refine WP.reg tabOk rfl ?_
    refine u_step (o_move rfl ?_)
    refine u_step (o_assign rfl ?_)
    refine u_nil ?_
    refine hK9 _ ?_
    refine WP.cond rfl (fun hc10 => ?_) (fun hc10 => ?_)
    ·
      try simp only [Q0, Q1, Q2, Q3, Q4, Q5, Q6, Q7, Q8, ge_iff_le, gt_iff_lt] at hc10
      refine WP.seq fun K11 hK11 => ?_
      refine WP.reg tabOk rfl ?_
      refine u_step (o_assign rfl ?_)
      refine u_nil ?_
      refine hK11 _ ?_
      refine WP.ret ?_
      refine ret_ok rfl ?_ (by omega) (fun t ht => (hk3 t (by omega)).trans ((hk2 t (by omega))))
      -- ret 2
      clear hK1 hK4 hK5 hK6 hK9 hK11
      refine congrArg (D.int .i64) ?_
      simp only [compV]
      grind
    ·
      try simp only [Q0, Q1, Q2, Q3, Q4, Q5, Q6, Q7, Q8, ge_iff_le, gt_iff_lt] at hc10
      refine WP.seq fun K12 hK12 => ?_
      refine WP.reg tabOk rfl ?_
      refine u_step (o_move rfl ?_)
      refine u_step (o_assign rfl ?_)
      refine u_nil ?_
      refine hK12 _ ?_
      refine WP.cond rfl (fun hc13 => ?_) (fun hc13 => ?_)
      ·
        try simp only [Q0, Q1, Q2, Q3, Q4, Q5, Q6, Q7, Q8, ge_iff_le, gt_iff_lt] at hc13
        refine WP.seq fun K14 hK14 => ?_
        refine WP.reg tabOk rfl ?_
        refine u_step (o_assign rfl ?_)
        refine u_nil ?_
        refine hK14 _ ?_
        refine WP.ret ?_
        refine ret_ok rfl ?_ (by omega) (fun t ht => (hk3 t (by omega)).trans ((hk2 t (by omega))))
        -- ret 3
        clear hK1 hK4 hK5 hK6 hK9 hK12 hK14
        refine congrArg (D.int .i64) ?_
        simp only [compV]
        grind
      ·
        try simp only [Q0, Q1, Q2, Q3, Q4, Q5, Q6, Q7, Q8, ge_iff_le, gt_iff_lt] at hc13
        refine WP.skip ?_
        refine hK4 _ ?_
        refine WP.seq fun K15 hK15 => ?_
        refine WP.reg tabOk rfl ?_
        refine u_step (o_assign rfl ?_)
        refine u_nil ?_
        refine hK15 _ ?_
        refine WP.ret ?_
        refine ret_ok rfl ?_ (by omega) (fun t ht => (hk3 t (by omega)).trans ((hk2 t (by omega))))
        -- ret 4
        clear hK1 hK4 hK5 hK6 hK9 hK12 hK15
        refine congrArg (D.int .i64) ?_
        simp only [compV]
        grind

theorem fn172 : FnOk Tryz.prog 172 9 [4] (bodyOf Tryz.f172) := ⟨Tryz.f172, Tryz.func172, by kernel_rfl, by decide, by kernel_rfl, by kernel_rfl⟩
theorem s172 (v w : Val) : PSpec Tryz.prog 172 [.d (encV v), .d (encV w)] (.d (.bool (decide (compV v w = 0)))) := by
  obtain ⟨kd, it, tx, xs, ns⟩ := v
  obtain ⟨kd2, it2, tx2, ys, ms⟩ := w
  refine PSpec.of fn172 (by simp) fun o nk => ?_
  refine WP.seq fun K1 hK1 => ?_
  refine WP.reg tabOk rfl ?_
  refine u_step (g_box rfl fun o2 hb2 hk2 => ?_)
  refine u_step (g_box rfl fun o3 hb3 hk3 => ?_)
  have hb2_3 := (hk3 _ (by omega)).trans hb2
  refine u_step (o_assign rfl ?_)
  refine u_nil ?_
  refine hK1 _ ?_
  refine WP.seq fun K4 hK4 => ?_
  refine WP.reg tabOk rfl ?_
  refine u_step (o_ld_agg rfl th27 rfl hb2_3 rfl rfl rfl ?_)
  refine u_step (o_ld_agg rfl th27 rfl hb3 rfl rfl rfl ?_)
  refine u_step (o_pcall (s194 (.mk kd it tx xs ns) (.mk kd2 it2 tx2 ys ms)) rfl ?_)
  refine u_step (o_bin_int rfl rfl (by decide) rfl ?_)
  refine u_step (o_assign rfl ?_)
  refine u_nil ?_
  refine hK4 _ ?_
  refine WP.ret ?_
  refine ret_ok rfl ?_ (by omega) (fun t ht => (hk3 t (by omega)).trans ((hk2 t (by omega))))
  -- ret 1
  refine congrArg D.bool ?_
  rw [Bool.eq_iff_iff]
  simp

end Go.Proofs.YtpkcbdhjnnnkbaaGreat.Abs

set_option linter.unusedVariables false
set_option linter.unusedSimpArgs false
set_option maxRecDepth 10000
namespace Go.Proofs.YtpkcbdhjnnnkbaaGreat.Abs
open Go
theorem encVs_snoc {xs : List Val} {i : Nat} (h : i < xs.length) : encVs (xs.take (i + 1)) = encVs (xs.take i) ++ [encV (xs[i]'h)] := by
  rw [List.take_succ_eq_append_getElem h, encVs_map, encVs_map, List.map_append]; rfl

theorem fn127 : FnOk Tryz.prog 127 8 [2] (bodyOf Tryz.f127) := ⟨Tryz.f127, Tryz.func127, by kernel_rfl, by decide, by kernel_rfl, by kernel_rfl⟩
theorem s127 (ns : List Str) (hsz : ns.length ≤ 1099511627776) : DSpec Tryz.prog 127 [.d (.sl 1 (ns.map .str))] 9 1 (ns.map .str) := by
  refine DSpec.of fn127 (by simp) fun o nk => ?_
  refine WP.seq fun K1 hK1 => ?_
  refine WP.reg tabOk rfl ?_
  refine u_step (o_assign rfl ?_)
  refine u_nil ?_
  refine hK1 _ ?_
  refine WP.seq fun K2 hK2 => ?_
  refine WP.seq fun K3 hK3 => ?_
  refine WP.reg tabOk rfl ?_
  refine u_step (o_move rfl ?_)
  refine u_step (o_eqnil rfl rfl th22 rfl fun nb4 hnb4 => ?_)
  refine u_nil ?_
  refine hK3 _ ?_
  refine WP.cond rfl (fun hc5 => ?_) (fun hc5 => ?_)
  ·
    try simp only [Q0, Q1, Q2, Q3, Q4, Q5, Q6, Q7, Q8, ge_iff_le, gt_iff_lt] at hc5
    refine WP.seq fun K6 hK6 => ?_
    refine WP.reg tabOk rfl ?_
    refine u_step (o_assign rfl ?_)
    refine u_nil ?_
    refine hK6 _ ?_
    refine WP.ret ?_
    refine dnil_ok rfl ?_ (by omega) (fun _ _ => rfl)
    exact hnb4 hc5
  ·
    try simp only [Q0, Q1, Q2, Q3, Q4, Q5, Q6, Q7, Q8, ge_iff_le, gt_iff_lt] at hc5
    refine WP.skip ?_
    refine hK2 _ ?_
    refine WP.seq fun K7 hK7 => ?_
    refine WP.reg tabOk rfl ?_
    refine u_step (g_bs0 th22 rfl th9 rfl rfl (by decide) fun o8 hb8 hk8 => ?_)
    refine u_step (o_move rfl ?_)
    refine u_step (g_ap rfl rfl th22 rfl th9 rfl rfl (by decide) rfl hb8 (by simp only [List.length_nil, List.length_map]; omega) (by simp only [List.length_nil, List.length_map]; omega) fun o9 hb9 hk9 => ?_)
    refine u_step (o_assignV (v := .row _) rfl ?_)
    refine u_nil ?_
    refine hK7 _ ?_
    refine WP.ret ?_
    refine drow_ok rfl (by omega) (by omega) ?_ (fun t ht => (hk9 t (by omega) (by omega)).trans ((hk8 t (by omega))))
    simpa using hb9

theorem fn77 : FnOkC Tryz.prog 77 28 [.cell 2 27] (bodyOf Tryz.f77) := ⟨Tryz.f77, Tryz.func77, by kernel_rfl, by decide, by kernel_rfl, by kernel_rfl⟩
theorem s77A (m : Nat) : ∀ v : Val, SizeOf.sizeOf v < m → szV v ≤ 1099511627776 → PSpec Tryz.prog 77 [.d (encV v)] (.d (encV v)) := by
  induction m with
  | zero => intros; omega
  | succ m ih =>
    rintro ⟨kd, it, tx, xs, ns⟩ hv hsz
    have hsz2 : 1 + tx.length + szVs xs + szN ns ≤ 1099511627776 := hsz
    have hxl := szVs_len xs
    have hnl := szN_len ns
    have hln := encVs_length xs
    refine PSpec.ofC1 tabOk fn77 (by simp) fun o nk => ?_
    refine WP.seq fun K1 hK1 => ?_
    refine WP.reg tabOk rfl ?_
    refine u_step (g_box rfl fun o2 hb2 hk2 => ?_)
    refine u_step (g_alloc th27 rfl fun o3 hb3 hk3 => ?_)
    have hb2_3 := (hk3 _ (by omega)).trans hb2
    refine u_nil ?_
    refine hK1 _ ?_
    refine WP.seq fun K4 hK4 => ?_
    refine WP.reg tabOk rfl ?_
    refine u_step (o_fa_loc rfl th27 rfl rfl th22 (by decide) hb2_3 ?_)
    refine u_step (o_ld_loc rfl th22 rfl hb2_3 rfl ?_)
    refine u_step (o_pcall ((s127 ns (by omega)).frz) rfl ?_)
    refine u_step (o_fa_loc rfl th27 rfl rfl th22 (by decide) hb2_3 ?_)
    refine u_step0 (g_st rfl rfl rfl th22 rfl hb2_3 (by simp) fun o5 hb5 hk5 => ?_)
    have hb3_5 := (hk5 _ (by omega)).trans hb3
    refine u_nil ?_
    refine hK4 _ ?_
    refine WP.seq fun K6 hK6 => ?_
    refine WP.reg tabOk rfl ?_
    refine u_step (o_fa_loc rfl th27 rfl rfl th25 (by decide) hb5 ?_)
    refine u_step (o_ld_loc rfl th25 rfl hb5 rfl ?_)
    refine u_step (o_assign rfl ?_)
    refine u_nil ?_
    refine hK6 _ ?_
    refine WP.seq fun K7 hK7 => ?_
    refine WP.reg tabOk rfl ?_
    refine u_step (o_fa_loc rfl th27 rfl rfl th25 (by decide) hb5 ?_)
    refine u_step0 (g_st rfl rfl rfl th25 rfl hb5 (by simp) fun o8 hb8 hk8 => ?_)
    have hb3_8 := (hk8 _ (by omega)).trans hb3_5
    refine u_nil ?_
    refine hK7 _ ?_
    refine WP.seq fun K9 hK9 => ?_
    refine WP.seq fun K10 hK10 => ?_
    refine WP.reg tabOk rfl ?_
    refine u_step (o_move rfl ?_)
    refine u_step (o_len_sl rfl th25 rfl ?_)
    refine u_step (o_move rfl ?_)
    refine u_nil ?_
    refine hK10 _ ?_
    refine WP.block ?_
    refine WP.loopL (ι := Nat × SV × Option Nat × (Nat → Option AO) × Nat) (fun ⟨i, c, q, o2, nk2⟩ => ⟨al [(1, .loc nk 0), (2, .loc (nk + 1) 0), (13, .d (.sl 5 (encVs xs))), (14, .d (.int .i64 (encVs xs).length)), (15, .d (.int .i64 i))], o2, nk2⟩) (fun ⟨i, c, q, o2, nk2⟩ => i ≤ xs.length ∧ nk + 2 ≤ nk2 ∧ o2 nk = some (.box [.d (.int .i64 kd), .d (.int .i64 it), .d (.str tx), c, .d (.sl 1 (ns.map .str))]) ∧ o2 (nk + 1) = some (.box [.d (.int .i64 0), .d (.int .i64 0), .d (.str []), .d .nil, .d .nil]) ∧ dstOf o2 27 5 c = some (q, encVs (xs.take i)) ∧ (∀ t, q = some t → nk + 2 ≤ t ∧ t < nk2) ∧ ∀ t, t < nk → o2 t = o t) (fun ⟨i, c, q, o2, nk2⟩ => xs.length - i) (fun ⟨i, c, q, o2, nk2⟩ hA => ?_) ⟨0, .d .nil, none, o8, ((nk + 1) + 1)⟩ ?_ ?_
    ·
      obtain ⟨hle, hnk, hob, hzb, hd, hq, hfr⟩ := hA
      refine WP.seq fun K11 hK11 => ?_
      refine WP.reg tabOk rfl ?_
      refine u_step (o_bin_int rfl rfl (by decide) rfl ?_)
      refine u_nil ?_
      refine hK11 _ ?_
      refine WP.seq fun K12 hK12 => ?_
      refine WP.cond rfl (fun hc13 => ?_) (fun hc13 => ?_)
      ·
        try simp only [Q0, Q1, Q2, Q3, Q4, Q5, Q6, Q7, Q8, ge_iff_le, gt_iff_lt] at hc13
        refine WP.skip ?_
        refine hK12 _ ?_
        refine WP.seq fun K14 hK14 => ?_
        refine WP.block ?_
        refine WP.seq fun K15 hK15 => ?_
        refine WP.reg tabOk rfl ?_
        first | refine u_step (o_ia_map rfl rfl th25 rfl th27 rfl (by omega) ?_) | refine u_step (o_ia_vs rfl rfl th25 rfl th27 rfl (by omega) ?_)
        refine u_step (o_ld_el rfl th27 (by first | rfl | simp only [encV_leaf, encV_width, Bool.not_true, TK.agg]) (by first | rfl | simp only [encV_leaf, encV_width, Bool.not_true, TK.agg]) ?_)
        refine u_step (g_alloc th27 rfl fun o16 hb16 hk16 => ?_)
        have hob_16 := (hk16 _ (by omega)).trans hob
        have hzb_16 := (hk16 _ (by omega)).trans hzb
        have hd_16 := dst_keep hd fun t e => hk16 t (by have := hq t e; omega)
        refine u_step0 (g_sta rfl (congrArg SV.d (encV_eq _)) th27 rfl hb16 (by simp [valCells]) fun o17 hb17 hk17 => ?_)
        have hob_17 := (hk17 _ (by omega)).trans hob_16
        have hzb_17 := (hk17 _ (by omega)).trans hzb_16
        have hd_17 := dst_keep hd_16 fun t e => hk17 t (by have := hq t e; omega)
        refine u_nil ?_
        refine hK15 _ ?_
        refine WP.dr2 [.q 0 0, .q 0 0, .q 0 0, .q 0 0, .q 0 0, .w 0, .q 1 1, .w 1] [5, 7] ((nk2 + 1) + 1) ((nk2 + 1) + 1) tabOk (by kernel_rfl) rfl (by kernel_rfl) (by kernel_rfl) ?_
        apply Exists.intro
        apply Exists.intro
        refine e_step rfl (o_fa_loc rfl th27 rfl rfl th25 (by decide) hob_17 ⟨rfl, rfl, rfl⟩) ?_
        refine e_step rfl (o_ld_locV rfl th25 rfl hob_17 rfl ⟨rfl, rfl, rfl⟩) ?_
        refine e_step rfl (o_ld_agg rfl th27 rfl hb17 rfl rfl rfl ⟨rfl, rfl, rfl⟩) ?_
        refine e_step rfl (o_pcall (pv (v := xs[i]) (ih _ (by exact items_lt' (by omega) hv) (by have := szVs_get (xs := xs) (j := i) (by omega); omega))) rfl ⟨rfl, rfl, rfl⟩) ?_
        first | refine e_step rfl (o_bs rfl th25 rfl th27 rfl rfl (by decide) rfl (by decide) (by decide) ⟨rfl, rfl, rfl⟩) ?_ | refine e_step rfl (o_bs1 rfl (by simp only [encV_width]) th25 rfl th27 rfl rfl (by decide) (by decide) ⟨rfl, rfl, rfl⟩) ?_
        refine e_w rfl rfl (w_apD rfl th25 rfl th27 rfl rfl (by decide) rfl hd_17 (by simp only [encVs_length, List.length_take, List.length_cons, List.length_nil]; omega) (by simp only [encVs_length, List.length_take, List.length_cons, List.length_nil]; omega) ⟨rfl, rfl, rfl⟩) ?_
        refine e_step rfl (o_fa_loc rfl th27 rfl rfl th25 (by decide) (((upd_ne _ _ (by omega)).trans (killo_ne (fun e => by have := hq _ e; omega))).trans hob_17) ⟨rfl, rfl, rfl⟩) ?_
        refine e_w0 rfl rfl (w_stV rfl rfl (upd_same _ _ _) th25 rfl (((upd_ne _ _ (by omega)).trans (killo_ne (fun e => by have := hq _ e; omega))).trans hob_17) (by simp) ⟨rfl, rfl, rfl⟩) ?_
        refine e_nil rfl fun o20 ho20 => ?_
        have hbZ_20 := (ho20 _).trans ((upd_ne _ _ (by omega)).trans (((upd_ne _ _ (by omega)).trans (killo_ne (fun e => by have := hq _ e; omega))).trans hzb_17))
        have hbb16_20 := (ho20 _).trans ((upd_ne _ _ (by omega)).trans (((upd_ne _ _ (by omega)).trans (killo_ne (fun e => by have := hq _ e; omega))).trans hb17))
        have hbr18_20 := (ho20 _).trans ((upd_ne _ _ (by omega)).trans (upd_same _ _ _))
        have hbB_20 := (ho20 _).trans (upd_same _ _ _)
        have hk20 : ∀ t, t < nk → o20 t = o17 t := fun t ht => (ho20 t).trans ((upd_ne _ _ (by omega)).trans ((upd_ne _ _ (by omega)).trans (killo_ne (fun e => by have := hq _ e; omega))))
        refine hK14 _ ?_
        refine WP.reg tabOk rfl ?_
        refine u_step (o_bin_int rfl rfl (by decide) rfl ?_)
        refine u_step (o_move rfl ?_)
        refine u_nil ?_
        -- back
        refine ⟨⟨i + 1, .row _, some _, o20, ((nk2 + 1) + 1)⟩, ⟨by omega, by omega, hbB_20, hbZ_20, (encVs_snoc (xs := xs) (i := i) (by omega)) ▸ dst_row hbr18_20, fun t e => by injection e with e; omega, (fun t ht => (hk20 t (by omega)).trans ((hk17 t (by omega)).trans ((hk16 t (by omega)).trans ((hfr t (by omega))))))⟩, by simp only; omega, ?_⟩
        refine Le.al ?_
        simp only [List.forall_mem_cons]
        exact ⟨rfl, rfl, rfl, rfl, cnt (by omega), by simp⟩
      ·
        try simp only [Q0, Q1, Q2, Q3, Q4, Q5, Q6, Q7, Q8, ge_iff_le, gt_iff_lt] at hc13
        refine WP.exit ?_
        refine hK9 _ ?_
        refine WP.seq fun K21 hK21 => ?_
        refine WP.frzC (pre := [.d (.int .i64 kd), .d (.int .i64 it), .d (.str tx)]) (post := [.d (.sl 1 (ns.map .str))]) [(1, .loc nk 0), (2, .loc (nk + 1) 0)] nk hob hd (Nat.le_refl _) (fun t e => ⟨rfl, rfl⟩) (fun t e => by simp only [List.forall_mem_cons]; exact ⟨rfl, rfl, by simp⟩) (fun e => by simp only [List.forall_mem_cons]; exact ⟨rfl, rfl, by simp⟩) fun o9 hB9 hk9 hm9 => ?_
        have hZ9 := hm9 _ _ (by omega) hzb fun t e => rfl
        have hF9 : ∀ t, t < nk → o9 t = o t := fun t ht => (hk9 t ht (fun e => by have := hq _ e; omega)).trans (hfr t ht)
        refine WP.reg tabOk rfl ?_
        refine u_step (o_ld_agg rfl th27 rfl hB9 rfl rfl rfl ?_)
        refine u_step0 (g_sta rfl rfl th27 rfl hZ9 (by first | (simp; done) | (simp [D.leaves, D.width, valCells]; done) | decide) fun o22 hb22 hk22 => ?_)
        have hB9_22 := (hk22 _ (by omega)).trans hB9
        refine u_nil ?_
        refine hK21 _ ?_
        refine WP.ret ?_
        refine retC1_ok (resis_agg rfl th27 rfl hb22 rfl rfl rfl) ?_ (by omega) (fun t ht => (hk22 t (by omega)).trans ((hF9 t (by omega))))
        rw [List.take_of_length_le (by omega)]
        rfl
    ·
      refine ⟨by omega, by omega, hb8, hb3_8, rfl, by simp, (fun t ht => (hk8 t (by omega)).trans ((hk5 t (by omega)).trans ((hk3 t (by omega)).trans ((hk2 t (by omega))))))⟩
    ·
      refine Le.al ?_
      simp only [List.forall_mem_cons]
      exact ⟨rfl, rfl, rfl, rfl, rfl, by simp⟩
theorem s77 (v : Val) (hsz : szV v ≤ 1099511627776) : PSpec Tryz.prog 77 [.d (encV v)] (.d (encV v)) := s77A _ v (Nat.lt_succ_self _) hsz

end Go.Proofs.YtpkcbdhjnnnkbaaGreat.Abs

set_option linter.unusedVariables false
set_option linter.unusedSimpArgs false
set_option maxRecDepth 10000
namespace Go.Proofs.YtpkcbdhjnnnkbaaGreat.Abs
open Go
/-- The place of a step's item; -1: there is none. -/
def placeV (v : Val) (s : Str) : Int :=
  if v.kind = 7 then idxS v.names s else if v.kind = 6 then (if stepI s < v.items.length then stepI s else -1) else -1
/-- What lies at a path. -/
def getV : Val → List Str → Option Val
  | v, [] => some v
  | v, s :: p => if 0 ≤ placeV v s then (match v.items[(placeV v s).toNat]? with
    | some x => getV x p
    | none => none) else none
theorem place7 {k i : Int} {t : Str} {xs : List Val} {ns : List Str} {s : Str} (h : k = 7) : placeV (.mk k i t xs ns) s = idxS ns s := by
  show (if k = 7 then _ else _) = _
  rw [if_pos h]; rfl
def zeroV : Val := .mk 0 0 [] [] []
/-- A value that was looked for. -/
def optL (o : Option Val) : List D := [encV (o.getD zeroV), .bool o.isSome]
def optL0 (o : Option Val) : List D := [match o with
  | some v => encV v
  | none => .agg [.int .i64 0, .int .i64 0, .str [], .nil, .nil], .bool o.isSome]
theorem opt_le (o : Option Val) : D.les (optL0 o) (optL o) := by
  cases o with
  | none => simp [optL0, optL, D.les, D.le, zeroV, encV, encVs]
  | some v => exact D.les_refl _
/-- What lies at a path of a document. -/
def getP (v : Val) (p : List Str) : Option Val := if v.kind = 7 ∧ mayV v = true ∧ pathV p = true then getV v p else none
theorem item_ex {xs : List Val} {j : Nat} (h : j < xs.length) : ∃ x, xs[j]? = some x := ⟨_, List.getElem?_eq_getElem h⟩
theorem getP_no {v : Val} {p : List Str} (hq : ((if v.kind ≠ 7 ∨ mayV v = false then (20 : Int) else if pathV p = true then 0 else 40) != 0) = true) : getP v p = none := by
  simp only [bne_iff_ne, ne_eq] at hq
  unfold getP
  rw [if_neg]
  rintro ⟨q1, q2, q3⟩
  rw [if_neg (by simp [q1, q2]), if_pos q3] at hq
  exact hq rfl
theorem getP_yes {v : Val} {p : List Str} (hq : ((if v.kind ≠ 7 ∨ mayV v = false then (20 : Int) else if pathV p = true then 0 else 40) != 0) = false) : getP v p = getV v p ∧ mayV v = true := by
  simp only [bne_eq_false_iff_eq] at hq
  unfold getP
  split at hq
  · cases hq
  · rename_i hq1
    simp only [ne_eq, not_or, Classical.not_not, Bool.not_eq_false] at hq1
    split at hq
    · rename_i hq2; exact ⟨if_pos ⟨hq1.1, hq1.2, hq2⟩, hq1.2⟩
    · cases hq
theorem pv2 {P : Program} {f : FuncId} {v : Val} {c : SV} {r : SV} (h : PSpec P f [.d (encV v), c] r) : PSpec P f [.d (.agg (valCells v)), c] r := encV_eq v ▸ h
theorem get_step {v : Val} {s : Str} {p : List Str} {x : Val} (h : 0 ≤ placeV v s) (hx : v.items[(placeV v s).toNat]? = some x) : getV v (s :: p) = getV x p := by
  rw [getV, if_pos h, hx]
theorem get_no {v : Val} {s : Str} {p : List Str} (h : placeV v s < 0) : getV v (s :: p) = none := by
  rw [getV, if_neg (by omega)]
theorem items_at {v : Val} {j : Nat} {x : Val} (h : v.items[j]? = some x) : (encVs v.items)[j]? = some (encV x) := by
  rw [encVs_map, List.getElem?_map, h]; rfl
theorem opt_some (v : Val) : optL0 (some v) = [encV v, .bool true] := rfl
theorem opt_none : optL0 none = [.agg [.int .i64 0, .int .i64 0, .str [], .nil, .nil], .bool false] := rfl
theorem s184b (s : Str) : PSpec Tryz.prog 184 [.d (.str s)] (.tup [.d (.int .i64 (if 0 ≤ stepI s then stepI s else 0)), .d (.bool (decide (0 ≤ stepI s)))]) := by
  have h := s184 s
  have e : (idxL s).map SV.d = [.d (.int .i64 (if 0 ≤ stepI s then stepI s else 0)), .d (.bool (decide (0 ≤ stepI s)))] := by
    unfold idxL
    split <;> simp_all
  rwa [e] at h
theorem idx_lt (ns : List Str) (s : Str) : idxS ns s < ns.length := by
  unfold idxS firstI
  split
  · rename_i h
    have := List.findIdx_lt_length_of_exists (xs := ns) (p := fun x => decide (s = x)) (by simpa using h)
    omega
  · omega
theorem stepI_ge (s : Str) : -1 ≤ stepI s := by unfold stepI; split <;> (try split) <;> omega
theorem may_item {v : Val} (h : mayV v = true) {x : Val} (hx : x ∈ v.items) : mayV x = true := by
  obtain ⟨k, i, t, xs, ns⟩ := v
  obtain ⟨j, hj, rfl⟩ := List.mem_iff_getElem.1 hx
  exact may_items h hj
theorem place_lt {v : Val} (h : mayV v = true) (s : Str) : placeV v s < v.items.length := by
  unfold placeV
  split
  · rename_i hk
    obtain ⟨k, i, t, xs, ns⟩ := v
    simp only [Val.kind] at hk
    subst hk
    have := idx_lt ns s
    have := may7 h
    simp only [Val.names, Val.items]
    omega
  · split
    · split <;> omega
    · omega
theorem get_may : ∀ (p : List Str) (v x : Val), mayV v = true → getV v p = some x → mayV x = true
  | [], v, x, hv, h => by simp only [getV, Option.some.injEq] at h; rw [← h]; exact hv
  | s :: p, v, x, hv, h => by
    simp only [getV] at h
    split at h
    · split at h
      · rename_i y hy
        exact get_may p y x (may_item hv (List.mem_of_getElem? hy)) h
      · cases h
    · cases h
theorem sz_item {v : Val} {j : Nat} {x : Val} (h : v.items[j]? = some x) : szV x ≤ szV v := by
  obtain ⟨k, i, t, xs, ns⟩ := v
  simp only [Val.items] at h
  obtain ⟨hj, rfl⟩ := List.getElem?_eq_some_iff.1 h
  have := szVs_get hj
  simp only [szV]; omega
/-- A part of a struct of the program's: what an entry is. -/
structure Etr where
  term : Int
  kind : Int
  coll : Str
  to : Str
  id : Val
  doc : Val
  deltas : List Dlt
  session : Int
  number : Int
def encE (e : Etr) : D := .agg ([.int .i64 e.term, .int .i64 e.kind, .str e.coll, .str e.to] ++ valCells e.id ++ valCells e.doc ++ [.sl 8 (e.deltas.map encD), .int .i64 e.session, .int .i64 e.number])
structure Flt where
  coll : Str
  path : List Str
  kinds : Int
def encF (f : Flt) : D := .agg [.str f.coll, .sl 1 (f.path.map .str), .int .i64 f.kinds]

theorem fn156 : FnOk Tryz.prog 156 31 [4] (bodyOf Tryz.f156) := ⟨Tryz.f156, Tryz.func156, by kernel_rfl, by decide, by kernel_rfl, by kernel_rfl⟩
theorem s156 (v : Val) (s : Str) : PSpec Tryz.prog 156 [.d (encV v), .d (.str s)] (.d (.int .i64 (placeV v s))) := by
  obtain ⟨kd, it, tx, xs, ns⟩ := v
  refine PSpec.of fn156 (by simp) fun o nk => ?_
  refine WP.seq fun K1 hK1 => ?_
  refine WP.reg tabOk rfl ?_
  refine u_step (g_box rfl fun o2 hb2 hk2 => ?_)
  refine u_step (o_assign rfl ?_)
  refine u_nil ?_
  refine hK1 _ ?_
  refine WP.seq fun K3 hK3 => ?_
  refine WP.seq fun K4 hK4 => ?_
  refine WP.reg tabOk rfl ?_
  refine u_step (o_fa_loc rfl th27 rfl rfl th3 (by decide) hb2 ?_)
  refine u_step (o_ld_loc rfl th3 rfl hb2 rfl ?_)
  refine u_nil ?_
  refine hK4 _ ?_
  refine WP.block ?_
  refine WP.seq fun K5 hK5 => ?_
  refine WP.reg tabOk rfl ?_
  refine u_step (o_bin_int rfl rfl (by decide) rfl ?_)
  refine u_step (o_assign rfl ?_)
  refine u_nil ?_
  refine hK5 _ ?_
  refine WP.cond rfl (fun hc6 => ?_) (fun hc6 => ?_)
  ·
    try simp only [Q0, Q1, Q2, Q3, Q4, Q5, Q6, Q7, Q8, ge_iff_le, gt_iff_lt] at hc6
    refine WP.seq fun K7 hK7 => ?_
    refine WP.reg tabOk rfl ?_
    refine u_step (o_fa_loc rfl th27 rfl rfl th22 (by decide) hb2 ?_)
    refine u_step (o_ld_loc rfl th22 rfl hb2 rfl ?_)
    refine u_step (o_move rfl ?_)
    refine u_step (o_pcall (s183 ns s) rfl ?_)
    refine u_step (o_assign rfl ?_)
    refine u_nil ?_
    refine hK7 _ ?_
    refine WP.ret ?_
    refine ret_ok rfl ?_ (by omega) (fun t ht => (hk2 t (by omega)))
    -- ret 1
    clear hK1 hK3 hK4 hK5 hK7
    refine congrArg (D.int .i64) ?_
    have e1 := encVs_length xs
    have e2 := stepI_ge s
    simp only [beq_iff_eq, beq_eq_false_iff_ne, ne_eq, Bool.and_eq_true, Bool.and_eq_false_iff, decide_eq_true_eq, decide_eq_false_iff_not] at hc6
    simp only [placeV, Val.kind, Val.items, Val.names]
    grind
  ·
    try simp only [Q0, Q1, Q2, Q3, Q4, Q5, Q6, Q7, Q8, ge_iff_le, gt_iff_lt] at hc6
    refine WP.seq fun K8 hK8 => ?_
    refine WP.reg tabOk rfl ?_
    refine u_step (o_bin_int rfl rfl (by decide) rfl ?_)
    refine u_step (o_assign rfl ?_)
    refine u_nil ?_
    refine hK8 _ ?_
    refine WP.cond rfl (fun hc9 => ?_) (fun hc9 => ?_)
    ·
      try simp only [Q0, Q1, Q2, Q3, Q4, Q5, Q6, Q7, Q8, ge_iff_le, gt_iff_lt] at hc9
      refine WP.seq fun K10 hK10 => ?_
      refine WP.reg tabOk rfl ?_
      refine u_step (o_move rfl ?_)
      refine u_step (o_pcall (s184b s) rfl ?_)
      refine u_step (o_moveV (v := .tup _) rfl ?_)
      refine u_step (o_ext rfl rfl ?_)
      refine u_step (o_ext rfl rfl ?_)
      refine u_step (o_assign rfl ?_)
      refine u_step (o_assign rfl ?_)
      refine u_nil ?_
      refine hK10 _ ?_
      refine WP.seq fun K11 hK11 => ?_
      refine WP.reg tabOk rfl ?_
      refine u_step (o_move rfl ?_)
      refine u_step (o_move rfl ?_)
      apply u_guard
      · exact GC.t _
      · intro hg
        refine o_move rfl ⟨rfl, rfl, rfl⟩
      apply u_guard
      · exact GC.t _
      · intro hg
        refine o_fa_loc rfl th27 rfl rfl th25 (by decide) hb2 ⟨rfl, rfl, rfl⟩
      apply u_guard
      · exact GC.t _
      · intro hg; try simp only [hg, cnd_true]; try simp only [hg, cnd_true, Bool.true_and]
        refine o_ld_loc rfl th25 rfl hb2 rfl ⟨rfl, rfl, rfl⟩
      apply u_guard
      · exact GC.t _
      · intro hg; try simp only [hg, cnd_true]; try simp only [hg, cnd_true, Bool.true_and]
        refine o_len_sl rfl th25 rfl ⟨rfl, rfl, rfl⟩
      apply u_guard
      · exact GC.t _
      · intro hg; try simp only [hg, cnd_true]; try simp only [hg, cnd_true, Bool.true_and]
        refine o_bin_int rfl rfl (by decide) rfl ⟨rfl, rfl, rfl⟩
      refine u_step (o_pick_and rfl rfl rfl ?_)
      refine u_nil ?_
      refine hK11 _ ?_
      refine WP.cond rfl (fun hc12 => ?_) (fun hc12 => ?_)
      ·
        try simp only [Q0, Q1, Q2, Q3, Q4, Q5, Q6, Q7, Q8, ge_iff_le, gt_iff_lt] at hc12
        refine WP.seq fun K13 hK13 => ?_
        refine WP.reg tabOk rfl ?_
        refine u_step (o_move rfl ?_)
        refine u_step (o_assign rfl ?_)
        refine u_nil ?_
        refine hK13 _ ?_
        refine WP.ret ?_
        refine ret_ok rfl ?_ (by omega) (fun t ht => (hk2 t (by omega)))
        -- ret 2
        clear hK1 hK3 hK4 hK5 hK8 hK10 hK11 hK13
        refine congrArg (D.int .i64) ?_
        have e1 := encVs_length xs
        have e2 := stepI_ge s
        simp only [beq_iff_eq, beq_eq_false_iff_ne, ne_eq, Bool.and_eq_true, Bool.and_eq_false_iff, decide_eq_true_eq, decide_eq_false_iff_not] at hc6 hc9 hc12
        simp only [placeV, Val.kind, Val.items, Val.names]
        grind
      ·
        try simp only [Q0, Q1, Q2, Q3, Q4, Q5, Q6, Q7, Q8, ge_iff_le, gt_iff_lt] at hc12
        refine WP.skip ?_
        refine hK3 _ ?_
        refine WP.seq fun K14 hK14 => ?_
        refine WP.reg tabOk rfl ?_
        refine u_step (o_assign rfl ?_)
        refine u_nil ?_
        refine hK14 _ ?_
        refine WP.ret ?_
        refine ret_ok rfl ?_ (by omega) (fun t ht => (hk2 t (by omega)))
        -- ret 3
        clear hK1 hK3 hK4 hK5 hK8 hK10 hK11 hK14
        refine congrArg (D.int .i64) ?_
        have e1 := encVs_length xs
        have e2 := stepI_ge s
        simp only [beq_iff_eq, beq_eq_false_iff_ne, ne_eq, Bool.and_eq_true, Bool.and_eq_false_iff, decide_eq_true_eq, decide_eq_false_iff_not] at hc6 hc9 hc12
        simp only [placeV, Val.kind, Val.items, Val.names]
        grind
    ·
      try simp only [Q0, Q1, Q2, Q3, Q4, Q5, Q6, Q7, Q8, ge_iff_le, gt_iff_lt] at hc9
      refine WP.skip ?_
      refine hK3 _ ?_
      refine WP.seq fun K15 hK15 => ?_
      refine WP.reg tabOk rfl ?_
      refine u_step (o_assign rfl ?_)
      refine u_nil ?_
      refine hK15 _ ?_
      refine WP.ret ?_
      refine ret_ok rfl ?_ (by omega) (fun t ht => (hk2 t (by omega)))
      -- ret 4
      clear hK1 hK3 hK4 hK5 hK8 hK15
      refine congrArg (D.int .i64) ?_
      have e1 := encVs_length xs
      have e2 := stepI_ge s
      simp only [beq_iff_eq, beq_eq_false_iff_ne, ne_eq, Bool.and_eq_true, Bool.and_eq_false_iff, decide_eq_true_eq, decide_eq_false_iff_not] at hc6 hc9
      simp only [placeV, Val.kind, Val.items, Val.names]
      grind

theorem fn115 : FnOk Tryz.prog 115 36 [4] (bodyOf Tryz.f115) := ⟨Tryz.f115, Tryz.func115, by kernel_rfl, by decide, by kernel_rfl, by kernel_rfl⟩
theorem s115 (v : Val) (s : Str) : PSpec Tryz.prog 115 [.d (encV v), .d (.str s)] (.d (.int .i64 (placeV v s))) := by
  refine PSpec.bd fun hbd => ?_
  obtain ⟨kd, it, tx, xs, ns⟩ := v
  have hx : ns.length ≤ 9223372036854775807 := by simpa using hbd.1.2.2.2.2.1.1
  refine PSpec.of fn115 (by simp) fun o nk => ?_
  refine WP.seq fun K1 hK1 => ?_
  refine WP.reg tabOk rfl ?_
  refine u_step (g_box rfl fun o2 hb2 hk2 => ?_)
  refine u_step (o_assign rfl ?_)
  refine u_nil ?_
  refine hK1 _ ?_
  refine WP.seq fun K3 hK3 => ?_
  refine WP.seq fun K4 hK4 => ?_
  refine WP.reg tabOk rfl ?_
  refine u_step (o_fa_loc rfl th27 rfl rfl th3 (by decide) hb2 ?_)
  refine u_step (o_ld_loc rfl th3 rfl hb2 rfl ?_)
  refine u_step (o_bin_int rfl rfl (by decide) rfl ?_)
  refine u_nil ?_
  refine hK4 _ ?_
  refine WP.cond rfl (fun hc5 => ?_) (fun hc5 => ?_)
  ·
    try simp only [Q0, Q1, Q2, Q3, Q4, Q5, Q6, Q7, Q8, ge_iff_le, gt_iff_lt] at hc5
    refine WP.seq fun K6 hK6 => ?_
    refine WP.seq fun K7 hK7 => ?_
    refine WP.reg tabOk rfl ?_
    refine u_step (o_move rfl ?_)
    refine u_step (o_pcall (s136 s) rfl ?_)
    refine u_step (o_assign rfl ?_)
    refine u_nil ?_
    refine hK7 _ ?_
    refine WP.seq fun K8 hK8 => ?_
    refine WP.reg tabOk rfl ?_
    refine u_step (o_move rfl ?_)
    refine u_step (o_fa_loc rfl th27 rfl rfl th25 (by decide) hb2 ?_)
    refine u_step (o_ld_loc rfl th25 rfl hb2 rfl ?_)
    refine u_step (o_len_sl rfl th25 rfl ?_)
    refine u_step (o_bin_int rfl rfl (by decide) rfl ?_)
    refine u_nil ?_
    refine hK8 _ ?_
    refine WP.cond rfl (fun hc9 => ?_) (fun hc9 => ?_)
    ·
      try simp only [Q0, Q1, Q2, Q3, Q4, Q5, Q6, Q7, Q8, ge_iff_le, gt_iff_lt] at hc9
      refine WP.seq fun K10 hK10 => ?_
      refine WP.reg tabOk rfl ?_
      refine u_step (o_move rfl ?_)
      refine u_step (o_assign rfl ?_)
      refine u_nil ?_
      refine hK10 _ ?_
      refine WP.ret ?_
      refine ret_ok rfl ?_ (by omega) (fun t ht => (hk2 t (by omega)))
      -- ret 1
      clear hK1 hK3 hK4 hK6 hK7 hK8 hK10
      refine congrArg (D.int .i64) ?_
      have e1 := encVs_length xs
      have e2 := stepI_ge s
      simp only [beq_iff_eq, beq_eq_false_iff_ne, ne_eq, decide_eq_true_eq, decide_eq_false_iff_not] at hc5 hc9
      simp only [placeV, Val.kind, Val.items, Val.names]
      grind
    ·
      try simp only [Q0, Q1, Q2, Q3, Q4, Q5, Q6, Q7, Q8, ge_iff_le, gt_iff_lt] at hc9
      refine WP.skip ?_
      refine hK6 _ ?_
      refine WP.seq fun K11 hK11 => ?_
      refine WP.reg tabOk rfl ?_
      refine u_step (o_assign rfl ?_)
      refine u_nil ?_
      refine hK11 _ ?_
      refine WP.ret ?_
      refine ret_ok rfl ?_ (by omega) (fun t ht => (hk2 t (by omega)))
      -- ret 2
      clear hK1 hK3 hK4 hK6 hK7 hK8 hK11
      refine congrArg (D.int .i64) ?_
      have e1 := encVs_length xs
      have e2 := stepI_ge s
      simp only [beq_iff_eq, beq_eq_false_iff_ne, ne_eq, decide_eq_true_eq, decide_eq_false_iff_not] at hc5 hc9
      simp only [placeV, Val.kind, Val.items, Val.names]
      grind
  ·
    try simp only [Q0, Q1, Q2, Q3, Q4, Q5, Q6, Q7, Q8, ge_iff_le, gt_iff_lt] at hc5
    refine WP.skip ?_
    refine hK3 _ ?_
    refine WP.seq fun K12 hK12 => ?_
    refine WP.seq fun K13 hK13 => ?_
    refine WP.reg tabOk rfl ?_
    refine u_step (o_fa_loc rfl th27 rfl rfl th3 (by decide) hb2 ?_)
    refine u_step (o_ld_loc rfl th3 rfl hb2 rfl ?_)
    refine u_step (o_bin_int rfl rfl (by decide) rfl ?_)
    refine u_nil ?_
    refine hK13 _ ?_
    refine WP.cond rfl (fun hc14 => ?_) (fun hc14 => ?_)
    ·
      try simp only [Q0, Q1, Q2, Q3, Q4, Q5, Q6, Q7, Q8, ge_iff_le, gt_iff_lt] at hc14
      have hk : kd = 7 := by simpa using hc14
      refine WP.seq fun K15 hK15 => ?_
      refine WP.reg tabOk rfl ?_
      refine u_step (o_assign rfl ?_)
      refine u_nil ?_
      refine hK15 _ ?_
      refine WP.block ?_
      refine WP.loopL (ι := Nat) (fun i => ⟨al [(1, .d (.str s)), (2, .loc nk 0), (6, .d (.int .i64 i))], o2, (nk + 1)⟩) (fun i => i ≤ ns.length ∧ ∀ (j : Nat) (hj : j < ns.length), j < i → decide (s = ns[j]) = false) (fun i => ns.length - i) (fun i hA => ?_) 0 ?_ ?_
      ·
        obtain ⟨hle_i, hin_i⟩ := hA
        refine WP.seq fun K16 hK16 => ?_
        refine WP.seq fun K17 hK17 => ?_
        refine WP.reg tabOk rfl ?_
        refine u_step (o_move rfl ?_)
        refine u_step (o_fa_loc rfl th27 rfl rfl th22 (by decide) hb2 ?_)
        refine u_step (o_ld_loc rfl th22 rfl hb2 rfl ?_)
        refine u_step (o_len_sl rfl th22 rfl ?_)
        refine u_step (o_bin_int rfl rfl (by decide) rfl ?_)
        refine u_nil ?_
        refine hK17 _ ?_
        refine WP.cond rfl (fun hc18 => ?_) (fun hc18 => ?_)
        ·
          try simp only [Q0, Q1, Q2, Q3, Q4, Q5, Q6, Q7, Q8, ge_iff_le, gt_iff_lt] at hc18
          refine WP.skip ?_
          refine hK16 _ ?_
          refine WP.seq fun K19 hK19 => ?_
          refine WP.block ?_
          refine WP.seq fun K20 hK20 => ?_
          refine WP.reg tabOk rfl ?_
          refine u_step (o_fa_loc rfl th27 rfl rfl th22 (by decide) hb2 ?_)
          refine u_step (o_ld_loc rfl th22 rfl hb2 rfl ?_)
          refine u_step (o_move rfl ?_)
          first | refine u_step (o_ia_map rfl rfl th22 rfl th9 rfl (by omega) ?_) | refine u_step (o_ia_vs rfl rfl th22 rfl th9 rfl (by omega) ?_)
          refine u_step (o_ld_el rfl th9 rfl rfl ?_)
          refine u_step (o_move rfl ?_)
          refine u_step (o_bin_str rfl rfl rfl ?_)
          refine u_nil ?_
          refine hK20 _ ?_
          refine WP.cond rfl (fun hc21 => ?_) (fun hc21 => ?_)
          ·
            try simp only [Q0, Q1, Q2, Q3, Q4, Q5, Q6, Q7, Q8, ge_iff_le, gt_iff_lt] at hc21
            refine WP.seq fun K22 hK22 => ?_
            refine WP.reg tabOk rfl ?_
            refine u_step (o_move rfl ?_)
            refine u_step (o_assign rfl ?_)
            refine u_nil ?_
            refine hK22 _ ?_
            refine WP.ret ?_
            refine ret_ok rfl ?_ (by omega) (fun t ht => (hk2 t (by omega)))
            -- ret 3
            clear hK1 hK3 hK4 hK12 hK13 hK15 hK16 hK17 hK19 hK20 hK22
            have hl : ns[i] = s := by simpa using hc21
            refine congrArg (D.int .i64) ?_
            rw [place7 hk, idxS, firstI_at (p := fun x => decide (s = x)) (xs := ns) (i := i) (by omega) (decide_eq_true hl.symm) hin_i]
          ·
            try simp only [Q0, Q1, Q2, Q3, Q4, Q5, Q6, Q7, Q8, ge_iff_le, gt_iff_lt] at hc21
            refine WP.skip ?_
            refine hK19 _ ?_
            refine WP.reg tabOk rfl ?_
            refine u_step (o_move rfl ?_)
            refine u_step (o_bin_int rfl rfl (by decide) rfl ?_)
            refine u_step (o_assign rfl ?_)
            refine u_nil ?_
            -- back
            refine ⟨i + 1, ⟨by omega, ?_⟩, by omega, ?_⟩
            · intro j hj h1
              by_cases h2 : j = i
              · subst h2; have hl := hc21; simp only [decide_eq_false_iff_not] at hl ⊢; exact fun e => hl e.symm
              · exact hin_i j hj (by omega)
            · refine Le.al ?_
              simp only [List.forall_mem_cons]
              exact ⟨rfl, rfl, cnt (by omega), by simp⟩
        ·
          try simp only [Q0, Q1, Q2, Q3, Q4, Q5, Q6, Q7, Q8, ge_iff_le, gt_iff_lt] at hc18
          refine WP.exit ?_
          refine hK12 _ ?_
          refine WP.seq fun K23 hK23 => ?_
          refine WP.reg tabOk rfl ?_
          refine u_step (o_assign rfl ?_)
          refine u_nil ?_
          refine hK23 _ ?_
          refine WP.ret ?_
          refine ret_ok rfl ?_ (by omega) (fun t ht => (hk2 t (by omega)))
          -- ret 4
          clear hK1 hK3 hK4 hK12 hK13 hK15 hK16 hK17 hK23
          refine congrArg (D.int .i64) ?_
          rw [place7 hk, idxS, firstI_none (p := fun x => decide (s = x)) (xs := ns) fun j hj => hin_i j hj (by omega)]
      ·
        simp
      ·
        refine Le.al ?_
        simp only [List.forall_mem_cons]
        exact ⟨rfl, rfl, rfl, by simp⟩
    ·
      try simp only [Q0, Q1, Q2, Q3, Q4, Q5, Q6, Q7, Q8, ge_iff_le, gt_iff_lt] at hc14
      refine WP.skip ?_
      refine hK12 _ ?_
      refine WP.seq fun K24 hK24 => ?_
      refine WP.reg tabOk rfl ?_
      refine u_step (o_assign rfl ?_)
      refine u_nil ?_
      refine hK24 _ ?_
      refine WP.ret ?_
      refine ret_ok rfl ?_ (by omega) (fun t ht => (hk2 t (by omega)))
      -- ret 5
      clear hK1 hK3 hK4 hK12 hK13 hK24
      refine congrArg (D.int .i64) ?_
      have e1 := encVs_length xs
      have e2 := stepI_ge s
      simp only [beq_iff_eq, beq_eq_false_iff_ne, ne_eq, decide_eq_true_eq, decide_eq_false_iff_not] at hc5 hc14
      simp only [placeV, Val.kind, Val.items, Val.names]
      grind

theorem fn114 : FnOkC Tryz.prog 114 34 [.cell 4 27, .tmp 5] (bodyOf Tryz.f114) := ⟨Tryz.f114, Tryz.func114, by kernel_rfl, by decide, by kernel_rfl, by kernel_rfl⟩
theorem s114a (v : Val) (p : List Str) (hsz : szV v ≤ 1099511627776) : PSpec Tryz.prog 114 [.d (encV v), .d (.sl 1 (p.map .str))] (.tup ((optL0 (getP v p)).map .d)) := by
  refine PSpec.bd fun hbd => ?_
  obtain ⟨kd, it, tx, xs, ns⟩ := v
  have hx : p.length ≤ 9223372036854775807 := by simpa using hbd.2.1.1
  refine PSpec.of2C tabOk fn114 (by simp) fun o nk => ?_
  refine WP.seq fun K1 hK1 => ?_
  refine WP.reg tabOk rfl ?_
  refine u_step (g_box rfl fun o2 hb2 hk2 => ?_)
  refine u_step (g_alloc th27 rfl fun o3 hb3 hk3 => ?_)
  have hb2_3 := (hk3 _ (by omega)).trans hb2
  refine u_step (o_assign rfl ?_)
  refine u_nil ?_
  refine hK1 _ ?_
  refine WP.seq fun K4 hK4 => ?_
  refine WP.seq fun K5 hK5 => ?_
  refine WP.reg tabOk rfl ?_
  refine u_step (o_ld_agg rfl th27 rfl hb2_3 rfl rfl rfl ?_)
  refine u_step (o_move rfl ?_)
  refine u_step (o_pcall (s155 (.mk kd it tx xs ns) p) rfl ?_)
  refine u_step (o_bin_int rfl rfl (by decide) rfl ?_)
  refine u_nil ?_
  refine hK5 _ ?_
  refine WP.cond rfl (fun hc6 => ?_) (fun hc6 => ?_)
  ·
    try simp only [Q0, Q1, Q2, Q3, Q4, Q5, Q6, Q7, Q8, ge_iff_le, gt_iff_lt] at hc6
    refine WP.seq fun K7 hK7 => ?_
    refine WP.reg tabOk rfl ?_
    refine u_step (o_bu rfl th27 rfl rfl ?_)
    refine u_step0 (g_sta rfl rfl th27 rfl hb3 (by first | (simp; done) | (simp [D.leaves, D.width, valCells]; done) | decide) fun o8 hb8 hk8 => ?_)
    have hb2_8 := (hk8 _ (by omega)).trans hb2_3
    refine u_step (o_assign rfl ?_)
    refine u_nil ?_
    refine hK7 _ ?_
    refine WP.ret ?_
    refine retC_ok (resis_agg rfl th27 rfl hb8 rfl rfl rfl) rfl ?_ ?_ (by omega) (fun t ht => (hk8 t (by omega)).trans ((hk3 t (by omega)).trans ((hk2 t (by omega)))))
    · rw [getP_no hc6]
    · rw [getP_no hc6]; rfl
  ·
    try simp only [Q0, Q1, Q2, Q3, Q4, Q5, Q6, Q7, Q8, ge_iff_le, gt_iff_lt] at hc6
    obtain ⟨hp, hmv⟩ := getP_yes hc6
    refine WP.skip ?_
    refine hK4 _ ?_
    refine WP.seq fun K9 hK9 => ?_
    refine WP.seq fun K10 hK10 => ?_
    refine WP.reg tabOk rfl ?_
    refine u_step (o_move rfl ?_)
    refine u_step (o_len_sl rfl th22 rfl ?_)
    refine u_step (o_move rfl ?_)
    refine u_nil ?_
    refine hK10 _ ?_
    refine WP.block ?_
    refine WP.loopL (ι := Nat × Val × (Nat → Option AO)) (fun ⟨i, u, o2⟩ => ⟨al [(2, .loc nk 0), (4, .loc (nk + 1) 0), (14, .d (.sl 1 (p.map .str))), (15, .d (.int .i64 (p.map D.str).length)), (16, .d (.int .i64 i))], o2, ((nk + 1) + 1)⟩) (fun ⟨i, u, o2⟩ => i ≤ p.length ∧ o2 nk = some (.box ((valCells u).map .d)) ∧ o2 (nk + 1) = some (.box [.d (.int .i64 0), .d (.int .i64 0), .d (.str []), .d .nil, .d .nil]) ∧ (∀ t, t < nk → o2 t = o t) ∧ mayV u = true ∧ szV u ≤ 1099511627776 ∧ getV (.mk kd it tx xs ns) p = getV u (p.drop i)) (fun ⟨i, u, o2⟩ => p.length - i) (fun ⟨i, u, o2⟩ hA => ?_) ⟨0, (.mk kd it tx xs ns), o3⟩ ?_ ?_
    ·
      obtain ⟨hle, hob, hzb, hfr, hmu, hsu, hgt⟩ := hA
      refine WP.seq fun K11 hK11 => ?_
      refine WP.reg tabOk rfl ?_
      refine u_step (o_bin_int rfl rfl (by decide) rfl ?_)
      refine u_nil ?_
      refine hK11 _ ?_
      refine WP.seq fun K12 hK12 => ?_
      refine WP.cond rfl (fun hc13 => ?_) (fun hc13 => ?_)
      ·
        try simp only [Q0, Q1, Q2, Q3, Q4, Q5, Q6, Q7, Q8, ge_iff_le, gt_iff_lt] at hc13
        refine WP.skip ?_
        refine hK12 _ ?_
        refine WP.seq fun K14 hK14 => ?_
        refine WP.block ?_
        refine WP.seq fun K15 hK15 => ?_
        refine WP.reg tabOk rfl ?_
        first | refine u_step (o_ia_map rfl rfl th22 rfl th9 rfl (by omega) ?_) | refine u_step (o_ia_vs rfl rfl th22 rfl th9 rfl (by omega) ?_)
        refine u_step (o_ld_el rfl th9 rfl rfl ?_)
        refine u_step (o_assign rfl ?_)
        refine u_nil ?_
        refine hK15 _ ?_
        refine WP.seq fun K16 hK16 => ?_
        refine WP.reg tabOk rfl ?_
        refine u_step (o_ld_agg rfl th27 rfl hob rfl rfl rfl ?_)
        refine u_step (o_move rfl ?_)
        refine u_step (o_pcall (pv2 (v := u) (s156 u p[i])) rfl ?_)
        refine u_step (o_assign rfl ?_)
        refine u_nil ?_
        refine hK16 _ ?_
        refine WP.seq fun K17 hK17 => ?_
        refine WP.seq fun K18 hK18 => ?_
        refine WP.reg tabOk rfl ?_
        refine u_step (o_move rfl ?_)
        refine u_step (o_bin_int rfl rfl (by decide) rfl ?_)
        refine u_nil ?_
        refine hK18 _ ?_
        refine WP.cond rfl (fun hc19 => ?_) (fun hc19 => ?_)
        ·
          try simp only [Q0, Q1, Q2, Q3, Q4, Q5, Q6, Q7, Q8, ge_iff_le, gt_iff_lt] at hc19
          refine WP.seq fun K20 hK20 => ?_
          refine WP.reg tabOk rfl ?_
          refine u_step (o_bu rfl th27 rfl rfl ?_)
          refine u_step0 (g_sta rfl rfl th27 rfl hzb (by first | (simp; done) | (simp [D.leaves, D.width, valCells]; done) | decide) fun o21 hb21 hk21 => ?_)
          have hob_21 := (hk21 _ (by omega)).trans hob
          refine u_step (o_assign rfl ?_)
          refine u_nil ?_
          refine hK20 _ ?_
          refine WP.ret ?_
          refine retC_ok (resis_agg rfl th27 rfl hb21 rfl rfl rfl) rfl ?_ ?_ (by omega) (fun t ht => (hk21 t (by omega)).trans ((hfr t (by omega))))
          · rw [hp, hgt, List.drop_eq_getElem_cons (by omega), get_no (by omega)]
          · rw [hp, hgt, List.drop_eq_getElem_cons (by omega), get_no (by omega)]; rfl
        ·
          try simp only [Q0, Q1, Q2, Q3, Q4, Q5, Q6, Q7, Q8, ge_iff_le, gt_iff_lt] at hc19
          have hp0 : 0 ≤ placeV u p[i] := by omega
          have hlt := place_lt hmu p[i]
          obtain ⟨x, hx⟩ : ∃ x, u.items[(placeV u p[i]).toNat]? = some x := item_ex (xs := u.items) (j := (placeV u p[i]).toNat) (by omega)
          have hxs := sz_item hx
          refine WP.skip ?_
          refine hK17 _ ?_
          refine WP.reg tabOk rfl ?_
          refine u_step (o_fa_loc rfl th27 rfl rfl th25 (by decide) hob ?_)
          refine u_step (o_ld_loc rfl th25 rfl hob rfl ?_)
          refine u_step (o_move rfl ?_)
          refine u_step (o_ia_sl (a := encV x) rfl rfl th25 rfl th27 rfl (by omega) (items_at hx) ?_)
          refine u_step (o_ld_el rfl th27 (by simp only [encV_leaf, TK.agg, Bool.not_true]) (by simp only [encV_width]) ?_)
          refine u_step0 (g_sta rfl (congrArg SV.d (encV_eq x)) th27 rfl hob (by simp [valCells]) fun o22 hb22 hk22 => ?_)
          have hzb_22 := (hk22 _ (by omega)).trans hzb
          refine u_nil ?_
          refine hK14 _ ?_
          refine WP.reg tabOk rfl ?_
          refine u_step (o_bin_int rfl rfl (by decide) rfl ?_)
          refine u_step (o_move rfl ?_)
          refine u_nil ?_
          -- back
          refine ⟨⟨i + 1, x, o22⟩, ⟨by omega, hb22, hzb_22, (fun t ht => (hk22 t (by omega)).trans ((hfr t (by omega)))), may_item hmu (List.mem_of_getElem? hx), by omega, ?_⟩, by simp only; omega, ?_⟩
          · rw [hgt, List.drop_eq_getElem_cons (by omega), get_step hp0 hx]
          · refine Le.al ?_
            simp only [List.forall_mem_cons]
            exact ⟨rfl, rfl, rfl, rfl, cnt (by omega), by simp⟩
      ·
        try simp only [Q0, Q1, Q2, Q3, Q4, Q5, Q6, Q7, Q8, ge_iff_le, gt_iff_lt] at hc13
        refine WP.exit ?_
        refine hK9 _ ?_
        refine WP.seq fun K23 hK23 => ?_
        refine WP.reg tabOk rfl ?_
        refine u_step (o_ld_agg rfl th27 rfl hob rfl rfl rfl ?_)
        refine u_step (o_pcall (pv (v := u) (s77 u (by omega))) rfl ?_)
        refine u_step0 (g_sta rfl (congrArg SV.d (encV_eq u)) th27 rfl hzb (by simp [valCells]) fun o24 hb24 hk24 => ?_)
        have hob_24 := (hk24 _ (by omega)).trans hob
        refine u_step (o_assign rfl ?_)
        refine u_nil ?_
        refine hK23 _ ?_
        refine WP.ret ?_
        refine retC_ok (resis_agg rfl th27 rfl hb24 rfl rfl rfl) rfl ?_ ?_ (by omega) (fun t ht => (hk24 t (by omega)).trans ((hfr t (by omega))))
        · rw [hp, hgt, List.drop_eq_nil_of_le (by omega), getV]; exact (encV_eq u).symm
        · rw [hp, hgt, List.drop_eq_nil_of_le (by omega), getV]; rfl
    ·
      exact ⟨by omega, hb2_3, hb3, (fun t ht => (hk3 t (by omega)).trans ((hk2 t (by omega)))), hmv, hsz, rfl⟩
    ·
      refine Le.al ?_
      simp only [List.forall_mem_cons]
      exact ⟨rfl, rfl, rfl, rfl, rfl, by simp⟩

theorem fn62 : FnOkC Tryz.prog 62 29 [.cell 4 27, .tmp 5] (bodyOf Tryz.f62) := ⟨Tryz.f62, Tryz.func62, by kernel_rfl, by decide, by kernel_rfl, by kernel_rfl⟩
theorem s62a (v : Val) (p : List Str) (hm : mayV v = true) : PSpec Tryz.prog 62 [.d (encV v), .d (.sl 1 (p.map .str))] (.tup ((optL0 (getV v p)).map .d)) := by
  refine PSpec.bd fun hbd => ?_
  obtain ⟨kd, it, tx, xs, ns⟩ := v
  have hx : p.length ≤ 9223372036854775807 := by simpa using hbd.2.1.1
  refine PSpec.of2C tabOk fn62 (by simp) fun o nk => ?_
  refine WP.seq fun K1 hK1 => ?_
  refine WP.reg tabOk rfl ?_
  refine u_step (g_box rfl fun o2 hb2 hk2 => ?_)
  refine u_step (g_alloc th27 rfl fun o3 hb3 hk3 => ?_)
  have hb2_3 := (hk3 _ (by omega)).trans hb2
  refine u_step (o_assign rfl ?_)
  refine u_nil ?_
  refine hK1 _ ?_
  refine WP.seq fun K4 hK4 => ?_
  refine WP.seq fun K5 hK5 => ?_
  refine WP.reg tabOk rfl ?_
  refine u_step (o_assign rfl ?_)
  refine u_nil ?_
  refine hK5 _ ?_
  refine WP.block ?_
  refine WP.loopL (ι := Nat × Val × (Nat → Option AO)) (fun ⟨i, u, o2⟩ => ⟨al [(1, .d (.sl 1 (p.map .str))), (2, .loc nk 0), (4, .loc (nk + 1) 0), (6, .d (.int .i64 i))], o2, ((nk + 1) + 1)⟩) (fun ⟨i, u, o2⟩ => i ≤ p.length ∧ o2 nk = some (.box ((valCells u).map .d)) ∧ o2 (nk + 1) = some (.box [.d (.int .i64 0), .d (.int .i64 0), .d (.str []), .d .nil, .d .nil]) ∧ (∀ t, t < nk → o2 t = o t) ∧ mayV u = true ∧ getV (.mk kd it tx xs ns) p = getV u (p.drop i)) (fun ⟨i, u, o2⟩ => p.length - i) (fun ⟨i, u, o2⟩ hA => ?_) ⟨0, (.mk kd it tx xs ns), o3⟩ ?_ ?_
  ·
    obtain ⟨hle, hob, hzb, hfr, hmu, hgt⟩ := hA
    refine WP.seq fun K6 hK6 => ?_
    refine WP.seq fun K7 hK7 => ?_
    refine WP.reg tabOk rfl ?_
    refine u_step (o_move rfl ?_)
    refine u_step (o_move rfl ?_)
    refine u_step (o_len_sl rfl th22 rfl ?_)
    refine u_step (o_bin_int rfl rfl (by decide) rfl ?_)
    refine u_nil ?_
    refine hK7 _ ?_
    refine WP.cond rfl (fun hc8 => ?_) (fun hc8 => ?_)
    ·
      try simp only [Q0, Q1, Q2, Q3, Q4, Q5, Q6, Q7, Q8, ge_iff_le, gt_iff_lt] at hc8
      refine WP.skip ?_
      refine hK6 _ ?_
      refine WP.seq fun K9 hK9 => ?_
      refine WP.block ?_
      refine WP.seq fun K10 hK10 => ?_
      refine WP.drw tabOk (by kernel_rfl) rfl (by kernel_rfl) ?_
      refine d_step (o_ld_agg rfl th27 rfl hob rfl rfl rfl ⟨rfl, rfl, rfl⟩) ?_
      refine d_step (o_move rfl ⟨rfl, rfl, rfl⟩) ?_
      refine d_step (o_move rfl ⟨rfl, rfl, rfl⟩) ?_
      first | refine d_step (o_ia_map rfl rfl th22 rfl th9 rfl (by omega) ⟨rfl, rfl, rfl⟩) ?_ | refine d_step (o_ia_vs rfl rfl th22 rfl th9 rfl (by omega) ⟨rfl, rfl, rfl⟩) ?_
      refine d_step (o_ld_el rfl th9 rfl rfl ⟨rfl, rfl, rfl⟩) ?_
      refine d_step (o_pcall (pv2 (v := u) (s115 u p[i])) rfl ⟨rfl, rfl, rfl⟩) ?_
      refine d_step (o_assign rfl ⟨rfl, rfl, rfl⟩) ?_
      refine d_nil ?_
      refine hK10 _ ?_
      refine WP.seq fun K11 hK11 => ?_
      refine WP.seq fun K12 hK12 => ?_
      refine WP.reg tabOk rfl ?_
      refine u_step (o_move rfl ?_)
      refine u_step (o_bin_int rfl rfl (by decide) rfl ?_)
      refine u_nil ?_
      refine hK12 _ ?_
      refine WP.cond rfl (fun hc13 => ?_) (fun hc13 => ?_)
      ·
        try simp only [Q0, Q1, Q2, Q3, Q4, Q5, Q6, Q7, Q8, ge_iff_le, gt_iff_lt] at hc13
        refine WP.seq fun K14 hK14 => ?_
        refine WP.reg tabOk rfl ?_
        refine u_step (o_bu rfl th27 rfl rfl ?_)
        refine u_step0 (g_sta rfl rfl th27 rfl hzb (by first | (simp; done) | (simp [D.leaves, D.width, valCells]; done) | decide) fun o15 hb15 hk15 => ?_)
        have hob_15 := (hk15 _ (by omega)).trans hob
        refine u_step (o_assign rfl ?_)
        refine u_nil ?_
        refine hK14 _ ?_
        refine WP.ret ?_
        refine retC_ok (resis_agg rfl th27 rfl hb15 rfl rfl rfl) rfl ?_ ?_ (by omega) (fun t ht => (hk15 t (by omega)).trans ((hfr t (by omega))))
        · rw [hgt, List.drop_eq_getElem_cons (by omega), get_no (by omega)]
        · rw [hgt, List.drop_eq_getElem_cons (by omega), get_no (by omega)]; rfl
      ·
        try simp only [Q0, Q1, Q2, Q3, Q4, Q5, Q6, Q7, Q8, ge_iff_le, gt_iff_lt] at hc13
        have hp0 : 0 ≤ placeV u p[i] := by omega
        have hlt := place_lt hmu p[i]
        obtain ⟨x, hx⟩ : ∃ x, u.items[(placeV u p[i]).toNat]? = some x := item_ex (xs := u.items) (j := (placeV u p[i]).toNat) (by omega)
        refine WP.skip ?_
        refine hK11 _ ?_
        refine WP.reg tabOk rfl ?_
        refine u_step (o_fa_loc rfl th27 rfl rfl th25 (by decide) hob ?_)
        refine u_step (o_ld_loc rfl th25 rfl hob rfl ?_)
        refine u_step (o_move rfl ?_)
        refine u_step (o_ia_sl (a := encV x) rfl rfl th25 rfl th27 rfl (by omega) (items_at hx) ?_)
        refine u_step (o_ld_el rfl th27 (by simp only [encV_leaf, TK.agg, Bool.not_true]) (by simp only [encV_width]) ?_)
        refine u_step0 (g_sta rfl (congrArg SV.d (encV_eq x)) th27 rfl hob (by simp [valCells]) fun o16 hb16 hk16 => ?_)
        have hzb_16 := (hk16 _ (by omega)).trans hzb
        refine u_nil ?_
        refine hK9 _ ?_
        refine WP.reg tabOk rfl ?_
        refine u_step (o_move rfl ?_)
        refine u_step (o_bin_int rfl rfl (by decide) rfl ?_)
        refine u_step (o_assign rfl ?_)
        refine u_nil ?_
        -- back
        refine ⟨⟨i + 1, x, o16⟩, ⟨by omega, hb16, hzb_16, (fun t ht => (hk16 t (by omega)).trans ((hfr t (by omega)))), may_item hmu (List.mem_of_getElem? hx), ?_⟩, by simp only; omega, ?_⟩
        · rw [hgt, List.drop_eq_getElem_cons (by omega), get_step hp0 hx]
        · refine Le.al ?_
          simp only [List.forall_mem_cons]
          exact ⟨rfl, rfl, rfl, cnt (by omega), by simp⟩
    ·
      try simp only [Q0, Q1, Q2, Q3, Q4, Q5, Q6, Q7, Q8, ge_iff_le, gt_iff_lt] at hc8
      refine WP.exit ?_
      refine hK4 _ ?_
      refine WP.seq fun K17 hK17 => ?_
      refine WP.reg tabOk rfl ?_
      refine u_step (o_ld_agg rfl th27 rfl hob rfl rfl rfl ?_)
      refine u_step0 (g_sta rfl rfl th27 rfl hzb (by first | (simp; done) | (simp [D.leaves, D.width, valCells]; done) | decide) fun o18 hb18 hk18 => ?_)
      have hob_18 := (hk18 _ (by omega)).trans hob
      refine u_step (o_assign rfl ?_)
      refine u_nil ?_
      refine hK17 _ ?_
      refine WP.ret ?_
      refine retC_ok (resis_agg rfl th27 rfl hb18 rfl rfl rfl) rfl ?_ ?_ (by omega) (fun t ht => (hk18 t (by omega)).trans ((hfr t (by omega))))
      · rw [hgt, List.drop_eq_nil_of_le (by omega), getV]; exact (encV_eq u).symm
      · rw [hgt, List.drop_eq_nil_of_le (by omega), getV]; rfl
  ·
    exact ⟨by omega, hb2_3, hb3, (fun t ht => (hk3 t (by omega)).trans ((hk2 t (by omega)))), hm, rfl⟩
  ·
    refine Le.al ?_
    simp only [List.forall_mem_cons]
    exact ⟨rfl, rfl, rfl, rfl, by simp⟩

theorem s114 (v : Val) (p : List Str) (hsz : szV v ≤ 1099511627776) : PSpec Tryz.prog 114 [.d (encV v), .d (.sl 1 (p.map .str))] (.tup ((optL (getP v p)).map .d)) := (s114a v p hsz).leT (opt_le _)
theorem s62 (v : Val) (p : List Str) (hm : mayV v = true) : PSpec Tryz.prog 62 [.d (encV v), .d (.sl 1 (p.map .str))] (.tup ((optL (getV v p)).map .d)) := (s62a v p hm).leT (opt_le _)
end Go.Proofs.YtpkcbdhjnnnkbaaGreat.Abs

set_option linter.unusedVariables false
set_option linter.unusedSimpArgs false
set_option maxRecDepth 10000
namespace Go.Proofs.YtpkcbdhjnnnkbaaGreat.Abs
open Go
def idS : Str := [95, 105, 100]
def idK : List Str := [[95, 105, 100]]
/-- May a document be inserted by an id? -/
noncomputable def mayDocV (v id : Val) : Bool := decide (v.kind = 7 ∧ checkV v = 0 ∧ getV v idK = some id)
theorem check_may {v : Val} (h : checkV v = 0) : mayV v = true := by
  unfold checkV at h
  split at h
  · cases h
  · rename_i hm; simpa using hm
theorem path_id : pathV idK = true := by decide
theorem getP_id {v : Val} (h7 : v.kind = 7) (hc : checkV v = 0) : getP v idK = getV v idK := by
  unfold getP; rw [if_pos ⟨h7, check_may hc, path_id⟩]
theorem mayDoc_l {v id : Val} (hi : mayV id = true) : ((getP v idK).isSome && decide (checkV v = 0) && decide (compV ((getP v idK).getD zeroV) id = 0)) = mayDocV v id := by
  rw [Bool.eq_iff_iff]
  simp only [Bool.and_eq_true, decide_eq_true_eq, mayDocV]
  constructor
  · rintro ⟨⟨h1, h2⟩, h3⟩
    have h7 : v.kind = 7 := by
      unfold getP at h1
      split at h1
      · rename_i h; exact h.1
      · cases h1
    rw [getP_id h7 h2] at h1 h3
    obtain ⟨x, hx⟩ := Option.isSome_iff_exists.1 h1
    have hm := get_may idK v x (check_may h2) hx
    rw [hx] at h3
    have := comp_same hm hi
    simp only [Option.getD_some] at h3
    rw [decide_eq_true h3] at this
    exact ⟨h7, h2, by rw [hx, same_eq.1 this.symm]⟩
  · rintro ⟨h7, h2, h3⟩
    rw [getP_id h7 h2, h3]
    refine ⟨⟨rfl, h2⟩, ?_⟩
    have := comp_same hi hi
    rw [same_refl] at this
    simpa using this
theorem refDoc_l {v id : Val} (h7 : v.kind = 7) (hc : checkV v = 0) : ((getV v idK).isSome && sameV ((getV v idK).getD zeroV) id) = mayDocV v id := by
  unfold mayDocV
  rw [Bool.eq_iff_iff]
  simp only [Bool.and_eq_true, decide_eq_true_eq, same_eq, h7, hc, true_and]
  cases getV v idK with
  | none => simp
  | some y => simp
/-- May changes be an update's? -/
def mayDeltasV (l : List Dlt) : Bool := decide (checkD l = 0) && freeD l && l.all fun d => !decide (d.path[0]? = some idS)
theorem checkD_all {l : List Dlt} (h : checkD l = 0) : ∀ d ∈ l, mayD d = true := by
  unfold checkD at h
  split at h
  · cases h
  · split at h
    · rename_i h1; exact List.all_eq_true.1 h1
    · cases h
theorem mayD_path {d : Dlt} (h : mayD d = true) : 0 < d.path.length := by
  unfold mayD pathV at h
  simp only [Bool.and_eq_true, decide_eq_true_eq] at h
  omega

theorem fn173 : FnOkC Tryz.prog 173 9 [.cell 2 27, .tmp 3] (bodyOf Tryz.f173) := ⟨Tryz.f173, Tryz.func173, by kernel_rfl, by decide, by kernel_rfl, by kernel_rfl⟩
theorem s173 (v : Val) (hsz : szV v ≤ 1099511627776) : PSpec Tryz.prog 173 [.d (encV v)] (.tup ((optL (getP v idK)).map .d)) := by
  obtain ⟨kd, it, tx, xs, ns⟩ := v
  refine PSpec.of2C tabOk fn173 (by simp) fun o nk => ?_
  refine WP.seq fun K1 hK1 => ?_
  refine WP.reg tabOk rfl ?_
  refine u_step (g_box rfl fun o2 hb2 hk2 => ?_)
  refine u_step (g_alloc th27 rfl fun o3 hb3 hk3 => ?_)
  have hb2_3 := (hk3 _ (by omega)).trans hb2
  refine u_step (o_assign rfl ?_)
  refine u_nil ?_
  refine hK1 _ ?_
  refine WP.seq fun K4 hK4 => ?_
  refine WP.reg tabOk rfl ?_
  refine u_step (o_ld_agg rfl th27 rfl hb2_3 rfl rfl rfl ?_)
  refine u_step (o_bs rfl th22 rfl th9 rfl rfl (by decide) rfl (by decide) (by decide) ?_)
  refine u_step (o_pcall (s114 (.mk kd it tx xs ns) idK hsz) rfl ?_)
  refine u_step (o_ext rfl rfl ?_)
  refine u_step (o_ext rfl rfl ?_)
  refine u_step0 (g_sta rfl (congrArg SV.d (encV_eq _)) th27 rfl hb3 (by simp [valCells]) fun o5 hb5 hk5 => ?_)
  have hb2_5 := (hk5 _ (by omega)).trans hb2_3
  refine u_step (o_assign rfl ?_)
  refine u_nil ?_
  refine hK4 _ ?_
  refine WP.ret ?_
  refine retC_ok (resis_agg rfl th27 rfl hb5 rfl rfl rfl) rfl ?_ ?_ (by omega) (fun t ht => (hk5 t (by omega)).trans ((hk3 t (by omega)).trans ((hk2 t (by omega)))))
  · exact (encV_eq _).symm
  · rfl

theorem fn148 : FnOk Tryz.prog 148 23 [4] (bodyOf Tryz.f148) := ⟨Tryz.f148, Tryz.func148, by kernel_rfl, by decide, by kernel_rfl, by kernel_rfl⟩
theorem s148 (v id : Val) (hr : rngV v) (hsz : szV v ≤ 1099511627776) (hi : mayV id = true) : PSpec Tryz.prog 148 [.d (encV v), .d (encV id)] (.d (.bool (mayDocV v id))) := by
  obtain ⟨kd, it, tx, xs, ns⟩ := v
  obtain ⟨kd2, it2, tx2, ys, ms⟩ := id
  refine PSpec.of fn148 (by simp) fun o nk => ?_
  refine WP.seq fun K1 hK1 => ?_
  refine WP.reg tabOk rfl ?_
  refine u_step (g_box rfl fun o2 hb2 hk2 => ?_)
  refine u_step (g_box rfl fun o3 hb3 hk3 => ?_)
  have hb2_3 := (hk3 _ (by omega)).trans hb2
  refine u_step (o_assign rfl ?_)
  refine u_nil ?_
  refine hK1 _ ?_
  refine WP.seq fun K4 hK4 => ?_
  refine WP.reg tabOk rfl ?_
  refine u_step (o_ld_agg rfl th27 rfl hb2_3 rfl rfl rfl ?_)
  refine u_step (o_pcall (s173 (.mk kd it tx xs ns) hsz) rfl ?_)
  refine u_step (o_moveV (v := .tup _) rfl ?_)
  refine u_step (o_ext rfl rfl ?_)
  refine u_step (o_ext rfl rfl ?_)
  refine u_step (g_alloc th27 rfl fun o5 hb5 hk5 => ?_)
  have hb2_5 := (hk5 _ (by omega)).trans hb2_3
  have hb3_5 := (hk5 _ (by omega)).trans hb3
  refine u_step0 (g_sta rfl (congrArg SV.d (encV_eq _)) th27 rfl hb5 (by simp [valCells]) fun o6 hb6 hk6 => ?_)
  have hb2_6 := (hk6 _ (by omega)).trans hb2_5
  have hb3_6 := (hk6 _ (by omega)).trans hb3_5
  refine u_step (o_assign rfl ?_)
  refine u_nil ?_
  refine hK4 _ ?_
  refine WP.seq fun K7 hK7 => ?_
  refine WP.reg tabOk rfl ?_
  refine u_step (o_move rfl ?_)
  refine u_step (o_move rfl ?_)
  apply u_guard
  · exact GC.t _
  · intro hg
    refine o_ld_agg rfl th27 rfl hb2_6 rfl rfl rfl ⟨rfl, rfl, rfl⟩
  apply u_guard
  · exact GC.t _
  · intro hg; try simp only [hg, cnd_true]; try simp only [hg, cnd_true, Bool.true_and]
    refine o_pcall (s123 (.mk kd it tx xs ns) hr hsz) rfl ⟨rfl, rfl, rfl⟩
  apply u_guard
  · exact GC.t _
  · intro hg; try simp only [hg, cnd_true]; try simp only [hg, cnd_true, Bool.true_and]
    refine o_bin_int rfl rfl (by decide) rfl ⟨rfl, rfl, rfl⟩
  refine u_step (o_pick_and rfl rfl rfl ?_)
  refine u_step (o_move rfl ?_)
  apply u_guard
  · exact GC.t _
  · intro hg
    refine o_ld_agg rfl th27 rfl hb6 rfl rfl rfl ⟨rfl, rfl, rfl⟩
  apply u_guard
  · exact GC.t _
  · intro hg
    refine o_ld_agg rfl th27 rfl hb3_6 rfl rfl rfl ⟨rfl, rfl, rfl⟩
  apply u_guard
  · exact GC.t _
  · intro hg; try simp only [hg, cnd_true]; try simp only [hg, cnd_true, Bool.true_and]
    refine o_pcall (pv2 (v := (getP (.mk kd it tx xs ns) idK).getD zeroV) (s172 _ (.mk kd2 it2 tx2 ys ms))) rfl ⟨rfl, rfl, rfl⟩
  refine u_step (o_pick_and rfl rfl rfl ?_)
  refine u_step (o_assign rfl ?_)
  refine u_nil ?_
  refine hK7 _ ?_
  refine WP.ret ?_
  refine ret_ok rfl ?_ (by omega) (fun t ht => (hk6 t (by omega)).trans ((hk5 t (by omega)).trans ((hk3 t (by omega)).trans ((hk2 t (by omega))))))
  -- ret 1
  refine congrArg D.bool ?_
  exact mayDoc_l hi

theorem fn67 : FnOk Tryz.prog 67 27 [4] (bodyOf Tryz.f67) := ⟨Tryz.f67, Tryz.func67, by kernel_rfl, by decide, by kernel_rfl, by kernel_rfl⟩
theorem s67 (v id : Val) (hr : rngV v) (hsz : szV v ≤ 1099511627776) : PSpec Tryz.prog 67 [.d (encV v), .d (encV id)] (.d (.bool (mayDocV v id))) := by
  obtain ⟨kd, it, tx, xs, ns⟩ := v
  obtain ⟨kd2, it2, tx2, ys, ms⟩ := id
  refine PSpec.of fn67 (by simp) fun o nk => ?_
  refine WP.seq fun K1 hK1 => ?_
  refine WP.reg tabOk rfl ?_
  refine u_step (g_box rfl fun o2 hb2 hk2 => ?_)
  refine u_step (g_box rfl fun o3 hb3 hk3 => ?_)
  have hb2_3 := (hk3 _ (by omega)).trans hb2
  refine u_step (o_assign rfl ?_)
  refine u_nil ?_
  refine hK1 _ ?_
  refine WP.seq fun K4 hK4 => ?_
  refine WP.seq fun K5 hK5 => ?_
  refine WP.reg tabOk rfl ?_
  refine u_step (o_fa_loc rfl th27 rfl rfl th3 (by decide) hb2_3 ?_)
  refine u_step (o_ld_loc rfl th3 rfl hb2_3 rfl ?_)
  refine u_step (o_bin_int rfl rfl (by decide) rfl ?_)
  refine u_step (o_move rfl ?_)
  apply u_guard
  · exact GC.f _
  · intro hg
    refine o_ld_agg rfl th27 rfl hb2_3 rfl rfl rfl ⟨rfl, rfl, rfl⟩
  apply u_guard
  · exact GC.f _
  · intro hg; try simp only [hg, cnd_true]; try simp only [hg, cnd_true, Bool.true_and]
    refine o_pcall (s66 (.mk kd it tx xs ns) hr hsz) rfl ⟨rfl, rfl, rfl⟩
  apply u_guard
  · exact GC.f _
  · intro hg; try simp only [hg, cnd_true]; try simp only [hg, cnd_true, Bool.true_and]
    refine o_bin_int rfl rfl (by decide) rfl ⟨rfl, rfl, rfl⟩
  refine u_step (o_pick_or rfl rfl rfl ?_)
  refine u_nil ?_
  refine hK5 _ ?_
  refine WP.cond rfl (fun hc6 => ?_) (fun hc6 => ?_)
  ·
    try simp only [Q0, Q1, Q2, Q3, Q4, Q5, Q6, Q7, Q8, ge_iff_le, gt_iff_lt] at hc6
    refine WP.seq fun K7 hK7 => ?_
    refine WP.reg tabOk rfl ?_
    refine u_step (o_assign rfl ?_)
    refine u_nil ?_
    refine hK7 _ ?_
    refine WP.ret ?_
    refine ret_ok rfl ?_ (by omega) (fun t ht => (hk3 t (by omega)).trans ((hk2 t (by omega))))
    -- ret 1
    clear hK1 hK4 hK5 hK7
    refine congrArg D.bool (decide_eq_false ?_).symm
    have hq := hc6
    rintro ⟨h1, h2, h3⟩
    have h1 : kd = 7 := h1
    subst h1; simp [h2] at hq
  ·
    try simp only [Q0, Q1, Q2, Q3, Q4, Q5, Q6, Q7, Q8, ge_iff_le, gt_iff_lt] at hc6
    have hq : kd = 7 ∧ checkV (.mk kd it tx xs ns) = 0 := by simpa using hc6
    refine WP.skip ?_
    refine hK4 _ ?_
    refine WP.seq fun K8 hK8 => ?_
    refine WP.reg tabOk rfl ?_
    refine u_step (o_ld_agg rfl th27 rfl hb2_3 rfl rfl rfl ?_)
    refine u_step (o_bs rfl th22 rfl th9 rfl rfl (by decide) rfl (by decide) (by decide) ?_)
    refine u_step (o_pcall (s62 (.mk kd it tx xs ns) idK (check_may hq.2)) rfl ?_)
    refine u_step (o_moveV (v := .tup _) rfl ?_)
    refine u_step (o_ext rfl rfl ?_)
    refine u_step (o_ext rfl rfl ?_)
    refine u_step (g_alloc th27 rfl fun o9 hb9 hk9 => ?_)
    have hb2_9 := (hk9 _ (by omega)).trans hb2_3
    have hb3_9 := (hk9 _ (by omega)).trans hb3
    refine u_step0 (g_sta rfl (congrArg SV.d (encV_eq _)) th27 rfl hb9 (by simp [valCells]) fun o10 hb10 hk10 => ?_)
    have hb2_10 := (hk10 _ (by omega)).trans hb2_9
    have hb3_10 := (hk10 _ (by omega)).trans hb3_9
    refine u_step (o_assign rfl ?_)
    refine u_nil ?_
    refine hK8 _ ?_
    refine WP.seq fun K11 hK11 => ?_
    refine WP.reg tabOk rfl ?_
    refine u_step (o_move rfl ?_)
    refine u_step (o_move rfl ?_)
    apply u_guard
    · exact GC.t _
    · intro hg
      refine o_ld_agg rfl th27 rfl hb10 rfl rfl rfl ⟨rfl, rfl, rfl⟩
    apply u_guard
    · exact GC.t _
    · intro hg
      refine o_ld_agg rfl th27 rfl hb3_10 rfl rfl rfl ⟨rfl, rfl, rfl⟩
    apply u_guard
    · exact GC.t _
    · intro hg; try simp only [hg, cnd_true]; try simp only [hg, cnd_true, Bool.true_and]
      refine o_pcall (pv2 (v := (getV (.mk kd it tx xs ns) idK).getD zeroV) (s30 _ (.mk kd2 it2 tx2 ys ms))) rfl ⟨rfl, rfl, rfl⟩
    refine u_step (o_pick_and rfl rfl rfl ?_)
    refine u_step (o_assign rfl ?_)
    refine u_nil ?_
    refine hK11 _ ?_
    refine WP.ret ?_
    refine ret_ok rfl ?_ (by omega) (fun t ht => (hk10 t (by omega)).trans ((hk9 t (by omega)).trans ((hk3 t (by omega)).trans ((hk2 t (by omega))))))
    -- ret 2
    refine congrArg D.bool ?_
    exact refDoc_l (v := (.mk kd it tx xs ns)) hq.1 hq.2

theorem fn174 : FnOk Tryz.prog 174 8 [2] (bodyOf Tryz.f174) := ⟨Tryz.f174, Tryz.func174, by kernel_rfl, by decide, by kernel_rfl, by kernel_rfl⟩
theorem s174 (d : Dlt) (hp : 0 < d.path.length) : PSpec Tryz.prog 174 [.d (encD d)] (.d (.bool (decide (d.path[0]? = some idS)))) := by
  refine PSpec.of fn174 (by simp) fun o nk => ?_
  refine WP.seq fun K1 hK1 => ?_
  refine WP.reg tabOk rfl ?_
  refine u_step (g_box rfl fun o2 hb2 hk2 => ?_)
  refine u_step (o_assign rfl ?_)
  refine u_nil ?_
  refine hK1 _ ?_
  refine WP.seq fun K3 hK3 => ?_
  refine WP.reg tabOk rfl ?_
  refine u_step (o_fa_loc rfl th83 rfl rfl th22 (by decide) hb2 ?_)
  refine u_step (o_ld_loc rfl th22 rfl hb2 rfl ?_)
  refine u_step (o_ia_sl (a := D.str (d.path[0]'hp)) rfl rfl th22 rfl th9 rfl (by decide) (by simp [hp]) ?_)
  refine u_step (o_ld_el rfl th9 rfl rfl ?_)
  refine u_step (o_bin_str rfl (show _ = SV.d (.str [95, 105, 100]) from rfl) rfl ?_)
  refine u_step (o_assign rfl ?_)
  refine u_nil ?_
  refine hK3 _ ?_
  refine WP.ret ?_
  refine ret_ok rfl ?_ (by omega) (fun t ht => (hk2 t (by omega)))
  -- ret 1
  refine congrArg D.bool ?_
  rw [Bool.eq_iff_iff]
  simp [idS, List.getElem?_eq_getElem hp]

theorem fn149 : FnOk Tryz.prog 149 17 [2] (bodyOf Tryz.f149) := ⟨Tryz.f149, Tryz.func149, by kernel_rfl, by decide, by kernel_rfl, by kernel_rfl⟩
theorem s149 (l : List Dlt) (hl : l.length ≤ 64 → ∀ d ∈ l, okD d) : PSpec Tryz.prog 149 [.d (.sl 8 (l.map encD))] (.d (.bool (mayDeltasV l))) := by
  refine PSpec.of fn149 (by simp) fun o nk => ?_
  refine WP.seq fun K1 hK1 => ?_
  refine WP.reg tabOk rfl ?_
  refine u_step (o_assign rfl ?_)
  refine u_nil ?_
  refine hK1 _ ?_
  refine WP.seq fun K2 hK2 => ?_
  refine WP.reg tabOk rfl ?_
  refine u_step (o_assignV (v := .clo _ _ _) rfl ?_)
  refine u_nil ?_
  refine hK2 _ ?_
  refine WP.seq fun K3 hK3 => ?_
  refine WP.reg tabOk rfl ?_
  refine u_step (o_move rfl ?_)
  refine u_step (o_pcall (s72 l hl) rfl ?_)
  refine u_step (o_bin_int rfl rfl (by decide) rfl ?_)
  refine u_step (o_move rfl ?_)
  apply u_guard
  · exact GC.t _
  · intro hg
    refine o_move rfl ⟨rfl, rfl, rfl⟩
  apply u_guard
  · exact GC.t _
  · intro hg; try simp only [hg, cnd_true]; try simp only [hg, cnd_true, Bool.true_and]
    refine o_pcall (s71 l) rfl ⟨rfl, rfl, rfl⟩
  refine u_step (o_pick_and rfl rfl rfl ?_)
  refine u_step (o_move rfl ?_)
  apply u_guard
  · exact GC.t _
  · intro hg
    refine o_move rfl ⟨rfl, rfl, rfl⟩
  apply u_guard
  · exact GC.t _
  · intro hg
    refine o_moveV (v := .clo _ _ _) rfl ⟨rfl, rfl, rfl⟩
  apply u_guard
  · exact GC.t _
  · intro hg; try simp only [hg, cnd_true]; try simp only [hg, cnd_true, Bool.true_and]
    have hg2 := hg; try simp only [Q0, Q1, Q2, Q3, Q4, Q5, Q6, Q9, Qa, Qb, Qc, Qd] at hg2
    refine o_scall (s121 l 174 [] [] (fun d => decide (d.path[0]? = some idS)) (fun x hx => s174 x (mayD_path (checkD_all hg2.1 x hx)) _ _)) rfl ⟨rfl, rfl, rfl⟩
  apply u_guard
  · exact GC.t _
  · intro hg; try simp only [hg, cnd_true]; try simp only [hg, cnd_true, Bool.true_and]
    refine o_not rfl ⟨rfl, rfl, rfl⟩
  refine u_step (o_pick_and rfl rfl rfl ?_)
  refine u_step (o_assign rfl ?_)
  refine u_nil ?_
  refine hK3 _ ?_
  refine WP.ret ?_
  refine ret_ok rfl ?_ (by omega) (fun _ _ => rfl)
  -- ret 1
  refine congrArg D.bool ?_
  simp only [mayDeltasV]
  rw [show (l.all fun d => !decide (d.path[0]? = some idS)) = !(l.any fun d => decide (d.path[0]? = some idS)) from by rw [List.all_eq_not_any_not]; simp]
  rfl

theorem fn68 : FnOk Tryz.prog 68 26 [2] (bodyOf Tryz.f68) := ⟨Tryz.f68, Tryz.func68, by kernel_rfl, by decide, by kernel_rfl, by kernel_rfl⟩
theorem s68 (l : List Dlt) (hl : l.length ≤ 64 → ∀ d ∈ l, okD d) : PSpec Tryz.prog 68 [.d (.sl 8 (l.map encD))] (.d (.bool (mayDeltasV l))) := by
  refine PSpec.bd fun hbd => ?_
  have hx : l.length ≤ 9223372036854775807 := by simpa using hbd.1.1
  refine PSpec.of fn68 (by simp) fun o nk => ?_
  refine WP.seq fun K1 hK1 => ?_
  refine WP.reg tabOk rfl ?_
  refine u_step (o_assign rfl ?_)
  refine u_nil ?_
  refine hK1 _ ?_
  refine WP.seq fun K2 hK2 => ?_
  refine WP.seq fun K3 hK3 => ?_
  refine WP.reg tabOk rfl ?_
  refine u_step (o_move rfl ?_)
  refine u_step (o_pcall (s31 l hl) rfl ?_)
  refine u_step (o_bin_int rfl rfl (by decide) rfl ?_)
  refine u_step (o_move rfl ?_)
  apply u_guard
  · exact GC.f _
  · intro hg
    refine o_move rfl ⟨rfl, rfl, rfl⟩
  apply u_guard
  · exact GC.f _
  · intro hg; try simp only [hg, cnd_true]; try simp only [hg, cnd_true, Bool.true_and]
    refine o_pcall (s118 l) rfl ⟨rfl, rfl, rfl⟩
  apply u_guard
  · exact GC.f _
  · intro hg; try simp only [hg, cnd_true]; try simp only [hg, cnd_true, Bool.true_and]
    refine o_not rfl ⟨rfl, rfl, rfl⟩
  refine u_step (o_pick_or rfl rfl rfl ?_)
  refine u_nil ?_
  refine hK3 _ ?_
  refine WP.cond rfl (fun hc4 => ?_) (fun hc4 => ?_)
  ·
    try simp only [Q0, Q1, Q2, Q3, Q4, Q5, Q6, Q7, Q8, ge_iff_le, gt_iff_lt] at hc4
    refine WP.seq fun K5 hK5 => ?_
    refine WP.reg tabOk rfl ?_
    refine u_step (o_assign rfl ?_)
    refine u_nil ?_
    refine hK5 _ ?_
    refine WP.ret ?_
    refine ret_ok rfl ?_ (by omega) (fun _ _ => rfl)
    -- ret 1
    refine congrArg D.bool ?_
    have hq := hc4
    simp only [mayDeltasV]
    try simp only [Bool.or_eq_true, Bool.not_eq_true', bne_iff_ne, ne_eq] at hq
    rcases hq with h | h
    · simp [h]
    · simp [h]
  ·
    try simp only [Q0, Q1, Q2, Q3, Q4, Q5, Q6, Q7, Q8, ge_iff_le, gt_iff_lt] at hc4
    have hq : checkD l = 0 ∧ freeD l = true := by simpa using hc4
    refine WP.skip ?_
    refine hK2 _ ?_
    refine WP.seq fun K6 hK6 => ?_
    refine WP.seq fun K7 hK7 => ?_
    refine WP.reg tabOk rfl ?_
    refine u_step (o_assign rfl ?_)
    refine u_nil ?_
    refine hK7 _ ?_
    refine WP.block ?_
    refine WP.loopL (ι := Nat) (fun i => ⟨al [(0, .d (.sl 8 (l.map encD))), (3, .d (.int .i64 i))], o, nk⟩) (fun i => i ≤ l.length ∧ (l.take i).all (fun d => !decide (d.path[0]? = some idS)) = true) (fun i => l.length - i) (fun i hA => ?_) 0 ?_ ?_
    ·
      obtain ⟨hle_i, hin_i⟩ := hA
      refine WP.seq fun K8 hK8 => ?_
      refine WP.seq fun K9 hK9 => ?_
      refine WP.reg tabOk rfl ?_
      refine u_step (o_move rfl ?_)
      refine u_step (o_move rfl ?_)
      refine u_step (o_len_sl rfl th28 rfl ?_)
      refine u_step (o_bin_int rfl rfl (by decide) rfl ?_)
      refine u_nil ?_
      refine hK9 _ ?_
      refine WP.cond rfl (fun hc10 => ?_) (fun hc10 => ?_)
      ·
        try simp only [Q0, Q1, Q2, Q3, Q4, Q5, Q6, Q7, Q8, ge_iff_le, gt_iff_lt] at hc10
        have hp := mayD_path (checkD_all hq.1 l[i] (List.getElem_mem _))
        refine WP.skip ?_
        refine hK8 _ ?_
        refine WP.seq fun K11 hK11 => ?_
        refine WP.block ?_
        refine WP.seq fun K12 hK12 => ?_
        refine WP.reg tabOk rfl ?_
        refine u_step (o_move rfl ?_)
        refine u_step (o_move rfl ?_)
        first | refine u_step (o_ia_map rfl rfl th28 rfl th83 rfl (by omega) ?_) | refine u_step (o_ia_vs rfl rfl th28 rfl th83 rfl (by omega) ?_)
        refine u_step (o_fa_el rfl th83 rfl rfl th22 (by decide) rfl ?_)
        refine u_step (o_ld_el rfl th22 rfl rfl ?_)
        refine u_step (o_ia_sl (a := D.str (l[i].path[0]'hp)) rfl rfl th22 rfl th9 rfl (by decide) (by simp [hp]) ?_)
        refine u_step (o_ld_el rfl th9 rfl rfl ?_)
        refine u_step (o_bin_str rfl (show _ = SV.d (.str [95, 105, 100]) from rfl) rfl ?_)
        refine u_nil ?_
        refine hK12 _ ?_
        refine WP.cond rfl (fun hc13 => ?_) (fun hc13 => ?_)
        ·
          try simp only [Q0, Q1, Q2, Q3, Q4, Q5, Q6, Q7, Q8, ge_iff_le, gt_iff_lt] at hc13
          refine WP.seq fun K14 hK14 => ?_
          refine WP.reg tabOk rfl ?_
          refine u_step (o_assign rfl ?_)
          refine u_nil ?_
          refine hK14 _ ?_
          refine WP.ret ?_
          refine ret_ok rfl ?_ (by omega) (fun _ _ => rfl)
          -- ret 2
          refine congrArg D.bool ?_
          have hq2 : l[i].path[0]'hp = [95, 105, 100] := by simpa using hc13
          simp only [mayDeltasV, hq.1, hq.2]
          rw [all_false (p := fun d : Dlt => !decide (d.path[0]? = some idS)) (by omega : i < l.length) (by simp [idS, List.getElem?_eq_getElem hp, hq2])]
          simp
        ·
          try simp only [Q0, Q1, Q2, Q3, Q4, Q5, Q6, Q7, Q8, ge_iff_le, gt_iff_lt] at hc13
          refine WP.skip ?_
          refine hK11 _ ?_
          refine WP.reg tabOk rfl ?_
          refine u_step (o_move rfl ?_)
          refine u_step (o_bin_int rfl rfl (by decide) rfl ?_)
          refine u_step (o_assign rfl ?_)
          refine u_nil ?_
          -- back
          refine ⟨i + 1, ⟨by omega, ?_⟩, by omega, ?_⟩
          · rw [all_snoc (by omega), hin_i]
            have hq2 : ¬ (l[i].path[0]'hp = [95, 105, 100]) := by simpa using hc13
            simp [idS, List.getElem?_eq_getElem hp, hq2]
          · refine Le.al ?_
            simp only [List.forall_mem_cons]
            exact ⟨rfl, cnt (by omega), by simp⟩
      ·
        try simp only [Q0, Q1, Q2, Q3, Q4, Q5, Q6, Q7, Q8, ge_iff_le, gt_iff_lt] at hc10
        refine WP.exit ?_
        refine hK6 _ ?_
        refine WP.seq fun K15 hK15 => ?_
        refine WP.reg tabOk rfl ?_
        refine u_step (o_assign rfl ?_)
        refine u_nil ?_
        refine hK15 _ ?_
        refine WP.ret ?_
        refine ret_ok rfl ?_ (by omega) (fun _ _ => rfl)
        -- ret 3
        refine congrArg D.bool ?_
        simp only [mayDeltasV, hq.1, hq.2]
        rw [all_true (by omega) hin_i]
        simp
    ·
      simp
    ·
      refine Le.al ?_
      simp only [List.forall_mem_cons]
      exact ⟨rfl, rfl, by simp⟩

end Go.Proofs.YtpkcbdhjnnnkbaaGreat.Abs

set_option linter.unusedVariables false
set_option linter.unusedSimpArgs false
set_option maxRecDepth 10000
namespace Go.Proofs.YtpkcbdhjnnnkbaaGreat.Abs
open Go
theorem o_ia_ar {P : Program} {Θ : Tab} {K : SV → (Nat → Option AO) → Nat → Prop} {sl : Nat → SV} {o : Nat → Option AO} {nk : Nat} {x ix : Operand} {t e : Nat} {i j : TI} {q g c : Nat} {cs : List SV} {k : IntKind} {m : Int} (hx : ev sl x = .loc q g) (hy : ev sl ix = .d (.int k m)) (hi : Θ t = some i) (hk : i.k = .arr c e) (hj : Θ e = some j) (ho : o q = some (.box cs)) (h0 : 0 ≤ m) (hlt : m.toNat < c) (h : K (.loc q (g + m.toNat * j.sz)) o nk) : vOp P Θ (.indexAddr t x ix) ⟨sl, o, nk⟩ K := o_ia_arr hx hy hi hk hj h0 hlt ho h
def setA : Nat → List D
  | 0 => List.replicate 256 (.bool false)
  | 1 => (List.replicate 256 (.bool false)).set 36 (.bool true)
  | _ => ((List.replicate 256 (.bool false)).set 36 (.bool true)).set 0 (.bool true)
theorem setA_at {c : Nat} (h : c < 256) : ((setA 2).map SV.d)[c]? = some (.d (.bool (decide (c = 36 ∨ c = 0)))) := by
  simp only [setA, List.getElem?_map, List.getElem?_set, List.getElem?_replicate, List.length_set, List.length_replicate]
  by_cases h0 : c = 0
  · subst h0; simp
  · by_cases h36 : c = 36
    · subst h36; simp
    · have a : ¬ 0 = c := by omega
      have b : ¬ 36 = c := by omega
      simp [h, h0, h36, a, b]
def validR (c : Int) : Bool := decide (0 ≤ c ∧ c < 55296) || decide (57343 < c ∧ c ≤ 1114111)
theorem enc_last {c : Int} (h : 128 ≤ c) (hv : validR c = true) : ∃ m, (Utf8.encode c).data.toList.length = m + 1 ∧ 1 ≤ m ∧ 128 ≤ bAt (Utf8.encode c).data.toList m := by
  have h4 := encode_len4 c
  have hv' : Utf8.valid c = true := by
    simp only [validR, Bool.or_eq_true, decide_eq_true_eq] at hv
    simp only [Utf8.valid, Bool.or_eq_true, Bool.and_eq_true, decide_eq_true_eq]
    rcases hv with ⟨h1, h2⟩ | ⟨h1, h2⟩
    · exact .inl ⟨h1, h2⟩
    · exact .inr ⟨by omega, h2⟩
  have hb : ∀ n : Nat, 128 ≤ (UInt8.ofNat (128 + n % 64)).toNat := fun n => by
    rw [UInt8.toNat_ofNat']; omega
  unfold Utf8.encode
  rw [if_pos hv']
  simp only
  split
  · omega
  · split
    · refine ⟨1, rfl, by omega, ?_⟩
      have := hb c.toNat
      show (128 : Int) ≤ ((UInt8.ofNat (128 + c.toNat % 64)).toNat : Int)
      omega
    · split
      · refine ⟨2, rfl, by omega, ?_⟩
        have := hb c.toNat
        show (128 : Int) ≤ ((UInt8.ofNat (128 + c.toNat % 64)).toNat : Int)
        omega
      · refine ⟨3, rfl, by omega, ?_⟩
        have := hb c.toNat
        show (128 : Int) ≤ ((UInt8.ofNat (128 + c.toNat % 64)).toNat : Int)
        omega
def s2 : Str := [36, 0]
/-- Where a rune stands in the two signs that no name has. -/
def runeI (c : Int) : Int := if c = 36 then 0 else if c = 0 then 1 else -1
theorem idx2 {c : Int} (h0 : 0 ≤ c) (h : c < 128) : Go.Lib.indexByte [36, 0] (IntKind.u8.wrap c).toNat.toUInt8 = runeI c := by
  obtain ⟨n, rfl⟩ := Int.eq_ofNat_of_zero_le h0
  have e : (IntKind.u8.wrap (n : Int)).toNat = n := by rw [wrap_u8]; omega
  rw [e]
  have h1 : ∀ m : Nat, m < 128 → Go.Lib.indexByte [36, 0] m.toUInt8 = runeI (m : Int) := by decide
  exact h1 n (by omega)
theorem dec2 {i : Nat} (h : i < 2) : (Utf8.decode ⟨([36, 0] : Str).toArray⟩ i).1 < 128 := by
  rcases (show i = 0 ∨ i = 1 by omega) with rfl | rfl <;> decide

theorem fn195 : FnOk Tryz.prog 195 8 [4] (bodyOf Tryz.f195) := ⟨Tryz.f195, Tryz.func195, by kernel_rfl, by decide, by kernel_rfl, by kernel_rfl⟩
theorem s195 (s : Str) (c : Int) : PSpec Tryz.prog 195 [.d (.str s), .d (.int .u8 c)] (.d (.int .i64 (Go.Lib.indexByte s c.toNat.toUInt8))) := by
  refine PSpec.of fn195 (by simp) fun o nk => ?_
  refine WP.seq fun K1 hK1 => ?_
  refine WP.reg tabOk rfl ?_
  refine u_step (o_assign rfl ?_)
  refine u_nil ?_
  refine hK1 _ ?_
  refine WP.seq fun K2 hK2 => ?_
  refine WP.reg tabOk rfl ?_
  refine u_step (o_move rfl ?_)
  refine u_step (o_move rfl ?_)
  refine u_step (o_pcall (s203 _ _) rfl ?_)
  refine u_step (o_assign rfl ?_)
  refine u_nil ?_
  refine hK2 _ ?_
  refine WP.ret ?_
  refine ret_ok rfl ?_ (by omega) (fun _ _ => rfl)
  -- ret 1
  rfl

theorem fn196 : FnOk Tryz.prog 196 17 [2] (bodyOf Tryz.f196) := ⟨Tryz.f196, Tryz.func196, by kernel_rfl, by decide, by kernel_rfl, by kernel_rfl⟩
theorem s196 (c : Int) : PSpec Tryz.prog 196 [.d (.int .i32 c)] (.d (.bool (validR c))) := by
  refine PSpec.of fn196 (by simp) fun o nk => ?_
  refine WP.seq fun K1 hK1 => ?_
  refine WP.reg tabOk rfl ?_
  refine u_step (o_assign rfl ?_)
  refine u_nil ?_
  refine hK1 _ ?_
  refine WP.seq fun K2 hK2 => ?_
  refine WP.block ?_
  refine WP.seq fun K3 hK3 => ?_
  refine WP.reg tabOk rfl ?_
  refine u_step (o_move rfl ?_)
  refine u_step (o_bin_int rfl rfl (by decide) rfl ?_)
  refine u_step (o_move rfl ?_)
  apply u_guard
  · exact GC.t _
  · intro hg
    refine o_move rfl ⟨rfl, rfl, rfl⟩
  apply u_guard
  · exact GC.t _
  · intro hg; try simp only [hg, cnd_true]; try simp only [hg, cnd_true, Bool.true_and]
    refine o_bin_int rfl rfl (by decide) rfl ⟨rfl, rfl, rfl⟩
  refine u_step (o_pick_and rfl rfl rfl ?_)
  refine u_step (o_assign rfl ?_)
  refine u_nil ?_
  refine hK3 _ ?_
  refine WP.cond rfl (fun hc4 => ?_) (fun hc4 => ?_)
  ·
    try simp only [Q0, Q1, Q2, Q3, Q4, Q5, Q6, Q7, Q8, ge_iff_le, gt_iff_lt] at hc4
    refine WP.seq fun K5 hK5 => ?_
    refine WP.reg tabOk rfl ?_
    refine u_step (o_assign rfl ?_)
    refine u_nil ?_
    refine hK5 _ ?_
    refine WP.ret ?_
    refine ret_ok rfl ?_ (by omega) (fun _ _ => rfl)
    -- ret 1
    refine congrArg D.bool ?_
    simp only [validR]
    grind
  ·
    try simp only [Q0, Q1, Q2, Q3, Q4, Q5, Q6, Q7, Q8, ge_iff_le, gt_iff_lt] at hc4
    refine WP.seq fun K6 hK6 => ?_
    refine WP.reg tabOk rfl ?_
    refine u_step (o_move rfl ?_)
    refine u_step (o_bin_int rfl rfl (by decide) rfl ?_)
    refine u_step (o_move rfl ?_)
    apply u_guard
    · exact GC.t _
    · intro hg
      refine o_move rfl ⟨rfl, rfl, rfl⟩
    apply u_guard
    · exact GC.t _
    · intro hg; try simp only [hg, cnd_true]; try simp only [hg, cnd_true, Bool.true_and]
      refine o_bin_int rfl rfl (by decide) rfl ⟨rfl, rfl, rfl⟩
    refine u_step (o_pick_and rfl rfl rfl ?_)
    refine u_step (o_assign rfl ?_)
    refine u_nil ?_
    refine hK6 _ ?_
    refine WP.cond rfl (fun hc7 => ?_) (fun hc7 => ?_)
    ·
      try simp only [Q0, Q1, Q2, Q3, Q4, Q5, Q6, Q7, Q8, ge_iff_le, gt_iff_lt] at hc7
      refine WP.seq fun K8 hK8 => ?_
      refine WP.reg tabOk rfl ?_
      refine u_step (o_assign rfl ?_)
      refine u_nil ?_
      refine hK8 _ ?_
      refine WP.ret ?_
      refine ret_ok rfl ?_ (by omega) (fun _ _ => rfl)
      -- ret 2
      refine congrArg D.bool ?_
      simp only [validR]
      grind
    ·
      try simp only [Q0, Q1, Q2, Q3, Q4, Q5, Q6, Q7, Q8, ge_iff_le, gt_iff_lt] at hc7
      refine WP.skip ?_
      refine hK2 _ ?_
      refine WP.seq fun K9 hK9 => ?_
      refine WP.reg tabOk rfl ?_
      refine u_step (o_assign rfl ?_)
      refine u_nil ?_
      refine hK9 _ ?_
      refine WP.ret ?_
      refine ret_ok rfl ?_ (by omega) (fun _ _ => rfl)
      -- ret 3
      refine congrArg D.bool ?_
      simp only [validR]
      grind

theorem fn176 : FnOk Tryz.prog 176 5 [2] (bodyOf Tryz.f176) := ⟨Tryz.f176, Tryz.func176, by kernel_rfl, by decide, by kernel_rfl, by kernel_rfl⟩
theorem s176 (n : Int) : PSpec Tryz.prog 176 [.d (.int .i64 n)] (.d (.bool (decide (8 < n)))) := by
  refine PSpec.of fn176 (by simp) fun o nk => ?_
  refine WP.seq fun K1 hK1 => ?_
  refine WP.reg tabOk rfl ?_
  refine u_step (o_assign rfl ?_)
  refine u_nil ?_
  refine hK1 _ ?_
  refine WP.seq fun K2 hK2 => ?_
  refine WP.reg tabOk rfl ?_
  refine u_step (o_move rfl ?_)
  refine u_step (o_bin_int rfl rfl (by decide) rfl ?_)
  refine u_step (o_assign rfl ?_)
  refine u_nil ?_
  refine hK2 _ ?_
  refine WP.ret ?_
  refine ret_ok rfl ?_ (by omega) (fun _ _ => rfl)
  -- ret 1
  rfl

theorem fn177 : FnOkC Tryz.prog 177 21 [.cell 2 149, .tmp 3] (bodyOf Tryz.f177) := ⟨Tryz.f177, Tryz.func177, by kernel_rfl, by decide, by kernel_rfl, by kernel_rfl⟩
theorem s177  : PSpec Tryz.prog 177 [.d (.str [36, 0])] (.tup (([.agg (setA 2), .bool true]).map .d)) := by
  refine PSpec.of2C tabOk fn177 (by simp) fun o nk => ?_
  refine WP.seq fun K1 hK1 => ?_
  refine WP.reg tabOk rfl ?_
  refine u_step (g_alloc th149 rfl fun o2 hb2 hk2 => ?_)
  refine u_step (o_assign rfl ?_)
  refine u_nil ?_
  refine hK1 _ ?_
  refine WP.seq fun K3 hK3 => ?_
  refine WP.seq fun K4 hK4 => ?_
  refine WP.reg tabOk rfl ?_
  refine u_step (o_assign rfl ?_)
  refine u_nil ?_
  refine hK4 _ ?_
  refine WP.block ?_
  refine WP.loopL (ι := Nat × (Nat → Option AO)) (fun ⟨i, o2⟩ => ⟨al [(0, .d (.str [36, 0])), (2, .loc nk 0), (4, .d (.int .i64 i))], o2, (nk + 1)⟩) (fun ⟨i, o2⟩ => i ≤ 2 ∧ o2 nk = some (.box ((setA i).map .d)) ∧ ∀ t, t < nk → o2 t = o t) (fun ⟨i, o2⟩ => 2 - i) (fun ⟨i, o2⟩ hA => ?_) ⟨0, o2⟩ ?_ ?_
  ·
    obtain ⟨hle, hob, hfr⟩ := hA
    refine WP.seq fun K5 hK5 => ?_
    refine WP.seq fun K6 hK6 => ?_
    refine WP.reg tabOk rfl ?_
    refine u_step (o_move rfl ?_)
    refine u_step (o_move rfl ?_)
    refine u_step (o_len_str rfl th9 rfl ?_)
    refine u_step (o_bin_int rfl rfl (by decide) rfl ?_)
    refine u_nil ?_
    refine hK6 _ ?_
    refine WP.cond rfl (fun hc7 => ?_) (fun hc7 => ?_)
    ·
      try simp only [Q0, Q1, Q2, Q3, Q4, Q5, Q6, Q7, Q8, ge_iff_le, gt_iff_lt] at hc7
      have hi : i = 0 ∨ i = 1 := by simp at hc7; omega
      refine WP.skip ?_
      refine hK5 _ ?_
      refine WP.seq fun K8 hK8 => ?_
      refine WP.block ?_
      refine WP.seq fun K9 hK9 => ?_
      refine WP.reg tabOk rfl ?_
      refine u_step (o_move rfl ?_)
      refine u_step (o_move rfl ?_)
      refine u_step (o_ix rfl rfl th9 rfl ?_ ?_ ?_)
      · omega
      · rcases hi with rfl | rfl <;> decide
      refine u_step (o_assign rfl ?_)
      refine u_nil ?_
      refine hK9 _ ?_
      refine WP.seq fun K10 hK10 => ?_
      refine WP.seq fun K11 hK11 => ?_
      refine WP.reg tabOk rfl ?_
      refine u_step (o_move rfl ?_)
      refine u_step (o_bin_int rfl rfl (by decide) rfl ?_)
      refine u_nil ?_
      refine hK11 _ ?_
      refine WP.cond rfl (fun hc12 => ?_) (fun hc12 => ?_)
      ·
        try simp only [Q0, Q1, Q2, Q3, Q4, Q5, Q6, Q7, Q8, ge_iff_le, gt_iff_lt] at hc12
        exfalso
        rcases hi with rfl | rfl <;> exact absurd hc12 (by decide)
      ·
        try simp only [Q0, Q1, Q2, Q3, Q4, Q5, Q6, Q7, Q8, ge_iff_le, gt_iff_lt] at hc12
        refine WP.skip ?_
        refine hK10 _ ?_
        refine WP.reg tabOk rfl ?_
        refine u_step (o_move rfl ?_)
        refine u_step (o_ia_ar rfl rfl th149 rfl th4 hob ?_ ?_ ?_)
        · rcases hi with rfl | rfl <;> decide
        · rcases hi with rfl | rfl <;> decide
        refine u_step0 (g_st rfl rfl rfl th4 rfl hob (by rcases hi with rfl | rfl <;> decide) fun o13 hb13 hk13 => ?_)
        refine u_nil ?_
        refine hK8 _ ?_
        refine WP.reg tabOk rfl ?_
        refine u_step (o_move rfl ?_)
        refine u_step (o_bin_int rfl rfl (by decide) rfl ?_)
        refine u_step (o_assign rfl ?_)
        refine u_nil ?_
        -- back
        refine ⟨⟨i + 1, o13⟩, ⟨by omega, ?_, (fun t ht => (hk13 t (by omega)).trans ((hfr t (by omega))))⟩, by simp only; omega, ?_⟩
        · rcases hi with rfl | rfl
          · exact (hb13).trans (by kernel_rfl)
          · exact (hb13).trans (by kernel_rfl)
        · refine Le.al ?_
          simp only [List.forall_mem_cons]
          exact ⟨rfl, rfl, cnt (by omega), by simp⟩
    ·
      try simp only [Q0, Q1, Q2, Q3, Q4, Q5, Q6, Q7, Q8, ge_iff_le, gt_iff_lt] at hc7
      have hi2 : i = 2 := by simp at hc7; omega
      refine WP.exit ?_
      refine hK3 _ ?_
      refine WP.seq fun K14 hK14 => ?_
      subst hi2
      refine WP.reg tabOk rfl ?_
      refine u_step (o_ld_agg rfl th149 rfl hob rfl rfl rfl ?_)
      refine u_step0 (g_sta rfl rfl th149 rfl hob (by simp [setA]) fun o15 hb15 hk15 => ?_)
      refine u_step (o_assign rfl ?_)
      refine u_nil ?_
      refine hK14 _ ?_
      refine WP.ret ?_
      refine retC_ok (resis_agg rfl th149 rfl hb15 rfl rfl rfl) rfl ?_ ?_ (by omega) (fun t ht => (hk15 t (by omega)).trans ((hfr t (by omega))))
      · rfl
      · rfl
  ·
    exact ⟨by omega, hb2, (fun t ht => (hk2 t (by omega)))⟩
  ·
    refine Le.al ?_
    simp only [List.forall_mem_cons]
    exact ⟨rfl, rfl, rfl, by simp⟩

end Go.Proofs.YtpkcbdhjnnnkbaaGreat.Abs

set_option linter.unusedVariables false
set_option linter.unusedSimpArgs false
set_option maxRecDepth 10000
namespace Go.Proofs.YtpkcbdhjnnnkbaaGreat.Abs
open Go
theorem o_nc {P : Program} {Θ : Tab} {K : SV → (Nat → Option AO) → Nat → Prop} {sl : Nat → SV} {o : Nat → Option AO} {nk : Nat} {x : Operand} {q g : Nat} {cs : List SV} (hx : ev sl x = .loc q g) (ho : o q = some (.box cs)) (h : K (.loc q g) o nk) : vOp P Θ (.nilCheck x) ⟨sl, o, nk⟩ K := by
  refine ⟨?_, ?_⟩
  · show ncOp o (ev sl x)
    rw [hx]; exact ⟨cs, ho⟩
  · show K (ev sl x) o nk
    rw [hx]; exact h
theorem setA_at2 {c : Nat} (h : c < 256) : ((setA 2).map SV.d)[0 + ((c : Int)).toNat * 1]? = some (.d (.bool (decide (c = 36 ∨ c = 0)))) := by
  rw [Int.toNat_natCast, Nat.zero_add, Nat.mul_one]; exact setA_at h
theorem dec_bd (s : ByteArray) (i : Nat) : (Utf8.decode s i).1 ≤ 1114111 := by
  have hb : ∀ k, (s.get! (i + k)).toNat < 256 := fun k => (s.get! (i + k)).toNat_lt
  have h0 := hb 0; have h1 := hb 1; have h2 := hb 2; have h3 := hb 3
  have hv : ∀ c : Nat, Utf8.valid (c : Int) = true → c ≤ 1114111 := fun c h => by
    simp only [Utf8.valid, Bool.or_eq_true, Bool.and_eq_true, decide_eq_true_eq] at h
    omega
  simp only [Utf8.decode]
  repeat' split
  all_goals simp only [Utf8.runeError, Bool.and_eq_true, decide_eq_true_eq] at *
  all_goals first
    | omega
    | (rename_i h; exact hv _ h.2)
theorem dec_skip (s : ByteArray) (i : Nat) (h : i < s.size) : 1 ≤ (Utf8.decode s i).2 ∧ i + (Utf8.decode s i).2 ≤ s.size ∧ ∀ k, 1 ≤ k → k < (Utf8.decode s i).2 → 128 ≤ (s.get! (i + k)).toNat := by
  simp only [Utf8.decode]
  repeat' split
  all_goals simp only [Bool.and_eq_true, decide_eq_true_eq, beq_iff_eq] at *
  all_goals refine ⟨by omega, by omega, fun k hk1 hk2 => ?_⟩
  all_goals
    by_cases e1 : k = 1
    · subst e1; omega
    · by_cases e2 : k = 2
      · subst e2; omega
      · by_cases e3 : k = 3
        · subst e3; omega
        · omega
/-- A sign that no name has. -/
def badC (c : UInt8) : Bool := decide (c = 36 ∨ c = 0)
theorem badC_nat (c : UInt8) : badC c = decide (c.toNat = 36 ∨ c.toNat = 0) := by
  unfold badC
  rw [Bool.eq_iff_iff]
  simp only [decide_eq_true_eq]
  constructor
  · rintro (rfl | rfl)
    · exact .inl rfl
    · exact .inr rfl
  · rintro (h | h)
    · exact .inl ((toNat_eq (n := 36) (by omega)).1 (by omega))
    · exact .inr ((toNat_eq (n := 0) (by omega)).1 (by omega))
def anyI (s : Str) : Int := firstI badC s
theorem get_bang {s : Str} {j : Nat} (h : j < s.length) : ((⟨s.toArray⟩ : ByteArray).get! j) = s[j]'h := by
  show (s.toArray[j]!) = _
  simp [h]
theorem dec_at {s : Str} {i : Nat} (h : i < s.length) : 1 ≤ (Utf8.decode ⟨s.toArray⟩ i).2 ∧ i + (Utf8.decode ⟨s.toArray⟩ i).2 ≤ s.length ∧
    (∀ (j : Nat) (hj : j < s.length), i < j → j < i + (Utf8.decode ⟨s.toArray⟩ i).2 → badC (s[j]'hj) = false) ∧ decide (0 ≤ runeI ((Utf8.decode ⟨s.toArray⟩ i).1 : Nat)) = badC (s[i]'h) := by
  have hs : i < (⟨s.toArray⟩ : ByteArray).size := by simpa [ByteArray.size] using h
  obtain ⟨h1, h2, h3⟩ := dec_skip ⟨s.toArray⟩ i hs
  have hsz : (⟨s.toArray⟩ : ByteArray).size = s.length := by simp [ByteArray.size]
  refine ⟨h1, by omega, fun j hj hij hj2 => ?_, ?_⟩
  · have := h3 (j - i) (by omega) (by omega)
    rw [show i + (j - i) = j by omega, get_bang hj] at this
    rw [badC_nat, decide_eq_false_iff_not]
    omega
  · have hg : (⟨s.toArray⟩ : ByteArray)[i]'hs = s[i]'h := rfl
    rw [badC_nat]
    by_cases ha : (s[i]'h).toNat < 128
    · have := decode_ascii ⟨s.toArray⟩ i hs (by rw [hg]; exact ha)
      rw [this, hg]
      unfold runeI
      rw [Bool.eq_iff_iff]
      simp only [decide_eq_true_eq]
      split
      · omega
      · split <;> omega
    · have := (decode_high ⟨s.toArray⟩ i hs (by rw [hg]; omega)).1
      unfold runeI
      rw [Bool.eq_iff_iff]
      simp only [decide_eq_true_eq]
      rw [if_neg (by omega), if_neg (by omega)]
      omega

theorem fn178 : FnOk Tryz.prog 178 10 [4] (bodyOf Tryz.f178) := ⟨Tryz.f178, Tryz.func178, by kernel_rfl, by decide, by kernel_rfl, by kernel_rfl⟩
theorem s178 {o : Nat → Option AO} {nk k c : Nat} (hkc : o k = some (.box ((setA 2).map .d))) (hkl : k < nk) (hc : c < 256) : Spec Tryz.prog 178 [.loc k 0, .d (.int .u8 (c : Int))] o nk (fun r' o' nk' => r' = .d (.bool (decide (c = 36 ∨ c = 0))) ∧ o' = o ∧ nk' = nk) := by
  refine Spec.pure (fun _ => trivial) rfl (Spec.of_body fn178 (by simp) ?_)
  refine WP.seq fun K1 hK1 => ?_
  refine WP.reg tabOk rfl ?_
  refine u_step (o_assign rfl ?_)
  refine u_nil ?_
  refine hK1 _ ?_
  refine WP.seq fun K2 hK2 => ?_
  refine WP.reg tabOk rfl ?_
  refine u_step (o_moveV (v := .loc _ _) rfl ?_)
  refine u_step (o_move rfl ?_)
  refine u_step (o_nc rfl hkc ?_)
  refine u_step (o_ia_ar rfl rfl th149 rfl th4 hkc ?_ ?_ ?_)
  · omega
  · omega
  refine u_step (o_ld_loc rfl th4 rfl hkc (setA_at2 hc) ?_)
  refine u_step (o_assign rfl ?_)
  refine u_nil ?_
  refine hK2 _ ?_
  refine WP.ret ?_
  refine ret_ok rfl ?_ (by omega) (fun _ _ => rfl)
  -- ret 1
  rfl

theorem fn175 : FnOk Tryz.prog 175 187 [4] (bodyOf Tryz.f175) := ⟨Tryz.f175, Tryz.func175, by kernel_rfl, by decide, by kernel_rfl, by kernel_rfl⟩
theorem s175 (c : Int) (h1 : 0 ≤ c) (h2 : c ≤ 1114111) : PSpec Tryz.prog 175 [.d (.str [36, 0]), .d (.int .i32 c)] (.d (.int .i64 (runeI c))) := by
  refine PSpec.of fn175 (by simp) fun o nk => ?_
  refine WP.seq fun K1 hK1 => ?_
  refine WP.reg tabOk rfl ?_
  refine u_step (o_assign rfl ?_)
  refine u_nil ?_
  refine hK1 _ ?_
  refine WP.block ?_
  refine WP.seq fun K2 hK2 => ?_
  refine WP.reg tabOk rfl ?_
  refine u_step (o_move rfl ?_)
  refine u_step (o_bin_int rfl rfl (by decide) rfl ?_)
  refine u_step (o_move rfl ?_)
  apply u_guard
  · exact GC.t _
  · intro hg
    refine o_move rfl ⟨rfl, rfl, rfl⟩
  apply u_guard
  · exact GC.t _
  · intro hg; try simp only [hg, cnd_true]; try simp only [hg, cnd_true, Bool.true_and]
    refine o_bin_int rfl rfl (by decide) rfl ⟨rfl, rfl, rfl⟩
  refine u_step (o_pick_and rfl rfl rfl ?_)
  refine u_step (o_assign rfl ?_)
  refine u_nil ?_
  refine hK2 _ ?_
  refine WP.cond rfl (fun hc3 => ?_) (fun hc3 => ?_)
  ·
    try simp only [Q0, Q1, Q2, Q3, Q4, Q5, Q6, Q7, Q8, ge_iff_le, gt_iff_lt] at hc3
    have h128 : c < 128 := by simp at hc3; omega
    refine WP.seq fun K4 hK4 => ?_
    refine WP.reg tabOk rfl ?_
    refine u_step (o_move rfl ?_)
    refine u_step (o_move rfl ?_)
    refine u_step (o_cv_int rfl th21 th5 rfl ?_)
    refine u_step (o_pcall (s195 _ _) rfl ?_)
    refine u_step (o_assign rfl ?_)
    refine u_nil ?_
    refine hK4 _ ?_
    refine WP.ret ?_
    refine ret_ok rfl ?_ (by omega) (fun _ _ => rfl)
    -- ret 1
    clear hK1 hK2 hK4
    refine congrArg (D.int .i64) ?_
    exact idx2 h1 h128
  ·
    try simp only [Q0, Q1, Q2, Q3, Q4, Q5, Q6, Q7, Q8, ge_iff_le, gt_iff_lt] at hc3
    have hc2 : 128 ≤ c := by have := hc3; simp at this; omega
    refine WP.seq fun K5 hK5 => ?_
    refine WP.reg tabOk rfl ?_
    refine u_step (o_move rfl ?_)
    refine u_step (o_bin_int rfl rfl (by decide) rfl ?_)
    refine u_step (o_assign rfl ?_)
    refine u_nil ?_
    refine hK5 _ ?_
    refine WP.cond rfl (fun hc6 => ?_) (fun hc6 => ?_)
    ·
      try simp only [Q0, Q1, Q2, Q3, Q4, Q5, Q6, Q7, Q8, ge_iff_le, gt_iff_lt] at hc6
      have hce : c = 65533 := by simpa using hc6
      refine WP.seq fun K7 hK7 => ?_
      refine WP.seq fun K8 hK8 => ?_
      refine WP.reg tabOk rfl ?_
      refine u_step (o_move rfl ?_)
      refine u_step (g_range rfl th9 rfl fun o9 hb9 hk9 => ?_)
      refine u_nil ?_
      refine hK8 _ ?_
      refine WP.block ?_
      refine WP.loopL (ι := Nat × (Nat → Option AO)) (fun ⟨i, o2⟩ => ⟨al [(175, .raw nk)], o2, (nk + 1)⟩) (fun ⟨i, o2⟩ => i ≤ 2 ∧ o2 nk = some (.raw (itOb [36, 0] i)) ∧ ∀ t, t < nk → o2 t = o t) (fun ⟨i, o2⟩ => 2 - i) (fun ⟨i, o2⟩ hA => ?_) ⟨0, o9⟩ ?_ ?_
      ·
        obtain ⟨hle, hob, hfr⟩ := hA
        refine WP.seq fun K10 hK10 => ?_
        refine WP.reg tabOk rfl ?_
        refine u_step (g_next rfl hob (fun hp11 o11 hb11 hk11 => ?_) (fun hp11 => ?_))
        ·
          have hi : i = 0 ∨ i = 1 := by have := hp11; simp at this; omega
          have hdd := dec2 (i := i) (by omega)
          refine u_step (o_ext rfl rfl ?_)
          refine u_nil ?_
          refine hK10 _ ?_
          refine WP.seq fun K12 hK12 => ?_
          refine WP.cond rfl (fun hc13 => ?_) (fun hc13 => by cases hc13)
          refine WP.skip ?_
          refine hK12 _ ?_
          refine WP.block ?_
          refine WP.seq fun K14 hK14 => ?_
          refine WP.reg tabOk rfl ?_
          refine u_step (o_ext rfl rfl ?_)
          refine u_step (o_ext rfl rfl ?_)
          refine u_step (o_assign rfl ?_)
          refine u_step (o_assign rfl ?_)
          refine u_nil ?_
          refine hK14 _ ?_
          refine WP.seq fun K15 hK15 => ?_
          refine WP.reg tabOk rfl ?_
          refine u_step (o_move rfl ?_)
          refine u_step (o_bin_int rfl rfl (by decide) rfl ?_)
          refine u_nil ?_
          refine hK15 _ ?_
          refine WP.cond rfl (fun hc16 => ?_) (fun hc16 => ?_)
          ·
            try simp only [Q0, Q1, Q2, Q3, Q4, Q5, Q6, Q7, Q8, ge_iff_le, gt_iff_lt] at hc16
            refine WP.seq fun K17 hK17 => ?_
            refine WP.reg tabOk rfl ?_
            refine u_step (o_move rfl ?_)
            refine u_step (o_assign rfl ?_)
            refine u_nil ?_
            refine hK17 _ ?_
            refine WP.ret ?_
            refine ret_ok rfl ?_ (by omega) (fun t ht => (hk11 t (by omega)).trans ((hfr t (by omega))))
            -- ret 2
            exfalso
            have hq := hc16
            simp at hq
            omega
          ·
            try simp only [Q0, Q1, Q2, Q3, Q4, Q5, Q6, Q7, Q8, ge_iff_le, gt_iff_lt] at hc16
            refine WP.skip ?_
            -- back
            refine ⟨⟨i + 1, o11⟩, ⟨by omega, ?_, (fun t ht => (hk11 t (by omega)).trans ((hfr t (by omega))))⟩, by simp only; omega, ?_⟩
            · have hft := hb11
              rcases hi with rfl | rfl
              · exact hft
              · exact hft
            · refine Le.al ?_
              simp only [List.forall_mem_cons]
              exact ⟨rfl, by simp⟩
        ·
          refine u_step (o_ext rfl rfl ?_)
          refine u_nil ?_
          refine hK10 _ ?_
          refine WP.seq fun K18 hK18 => ?_
          refine WP.cond rfl (fun hc19 => by cases hc19) (fun hc19 => ?_)
          refine WP.exit ?_
          refine hK7 _ ?_
          refine WP.seq fun K20 hK20 => ?_
          refine WP.reg tabOk rfl ?_
          refine u_step (o_assign rfl ?_)
          refine u_nil ?_
          refine hK20 _ ?_
          refine WP.ret ?_
          refine ret_ok rfl ?_ (by omega) (fun t ht => (hfr t (by omega)))
          -- ret 3
          refine congrArg (D.int .i64) ?_
          rw [hce]; rfl
      ·
        exact ⟨by omega, hb9, (fun t ht => (hk9 t (by omega)))⟩
      ·
        refine Le.al ?_
        simp only [List.forall_mem_cons]
        exact ⟨rfl, by simp⟩
    ·
      try simp only [Q0, Q1, Q2, Q3, Q4, Q5, Q6, Q7, Q8, ge_iff_le, gt_iff_lt] at hc6
      refine WP.seq fun K21 hK21 => ?_
      refine WP.reg tabOk rfl ?_
      refine u_step (o_move rfl ?_)
      refine u_step (o_pcall (s196 _) rfl ?_)
      refine u_step (o_not rfl ?_)
      refine u_step (o_assign rfl ?_)
      refine u_nil ?_
      refine hK21 _ ?_
      refine WP.cond rfl (fun hc22 => ?_) (fun hc22 => ?_)
      ·
        try simp only [Q0, Q1, Q2, Q3, Q4, Q5, Q6, Q7, Q8, ge_iff_le, gt_iff_lt] at hc22
        refine WP.seq fun K23 hK23 => ?_
        refine WP.reg tabOk rfl ?_
        refine u_step (o_assign rfl ?_)
        refine u_nil ?_
        refine hK23 _ ?_
        refine WP.ret ?_
        refine ret_ok rfl ?_ (by omega) (fun _ _ => rfl)
        -- ret 4
        refine congrArg (D.int .i64) ?_
        unfold runeI
        rw [if_neg (by omega), if_neg (by omega)]
      ·
        try simp only [Q0, Q1, Q2, Q3, Q4, Q5, Q6, Q7, Q8, ge_iff_le, gt_iff_lt] at hc22
        obtain ⟨m, hm, hm1, hml⟩ := enc_last hc2 (by simpa using hc22)
        refine WP.scope ?_
        refine WP.seq fun K24 hK24 => ?_
        refine WP.reg tabOk rfl ?_
        refine u_step (o_move rfl ?_)
        refine u_step (o_cv_rune rfl th21 rfl th9 rfl ?_)
        refine u_step (o_assign rfl ?_)
        refine u_nil ?_
        refine hK24 _ ?_
        refine WP.seq fun K25 hK25 => ?_
        refine WP.reg tabOk rfl ?_
        refine u_step (o_move rfl ?_)
        refine u_step (o_len_str rfl th9 rfl ?_)
        refine u_step (o_bin_int rfl rfl (by decide) rfl ?_)
        refine u_step (o_assign rfl ?_)
        refine u_nil ?_
        refine hK25 _ ?_
        refine WP.seq fun K26 hK26 => ?_
        refine WP.reg tabOk rfl ?_
        refine u_step (o_move rfl ?_)
        refine u_step (o_assign rfl ?_)
        refine u_nil ?_
        refine hK26 _ ?_
        refine WP.seq fun K27 hK27 => ?_
        refine WP.reg tabOk rfl ?_
        refine u_step (o_assign rfl ?_)
        refine u_nil ?_
        refine hK27 _ ?_
        refine WP.seq fun K28 hK28 => ?_
        refine WP.block ?_
        refine WP.loopL (ι := Unit) (fun _u => ⟨al [(0, .d (.str [36, 0])), (7, .d (.str (Utf8.encode c).data.toList)), (8, .d (.int .i64 (m : Nat))), (9, .d (.int .i64 (m : Nat)))], o, nk⟩) (fun _u => True) (fun _u => 0) (fun _u hA => ?_) () ?_ ?_
        ·
          refine WP.seq fun K29 hK29 => ?_
          refine WP.seq fun K30 hK30 => ?_
          refine WP.reg tabOk rfl ?_
          refine u_step (o_move rfl ?_)
          refine u_step (o_move rfl ?_)
          refine u_step (o_len_str rfl th9 rfl ?_)
          refine u_step (o_bin_int rfl rfl (by decide) rfl ?_)
          refine u_nil ?_
          refine hK30 _ ?_
          refine WP.cond rfl (fun hc31 => ?_) (fun hc31 => ?_)
          ·
            try simp only [Q0, Q1, Q2, Q3, Q4, Q5, Q6, Q7, Q8, ge_iff_le, gt_iff_lt] at hc31
            obtain rfl : m = 1 := by simp at hc31; omega
            refine WP.skip ?_
            refine hK29 _ ?_
            refine WP.block ?_
            refine WP.scope ?_
            refine WP.seq fun K32 hK32 => ?_
            refine WP.seq fun K33 hK33 => ?_
            refine WP.drw tabOk (by kernel_rfl) rfl (by kernel_rfl) ?_
            refine d_step (o_move rfl ⟨rfl, rfl, rfl⟩) ?_
            refine d_step (o_move rfl ⟨rfl, rfl, rfl⟩) ?_
            refine d_step (o_ix rfl rfl th9 rfl (by decide) (by decide) ⟨rfl, rfl, rfl⟩) ?_
            refine d_step (o_move rfl ⟨rfl, rfl, rfl⟩) ?_
            refine d_step (o_move rfl ⟨rfl, rfl, rfl⟩) ?_
            refine d_step (o_ix rfl rfl th9 rfl (by decide) (by rw [hm]; decide) ⟨rfl, rfl, rfl⟩) ?_
            refine d_step (o_bin_int rfl rfl (by decide) rfl ⟨rfl, rfl, rfl⟩) ?_
            refine d_nil ?_
            refine hK33 _ ?_
            refine WP.cond rfl (fun hc34 => ?_) (fun hc34 => ?_)
            ·
              try simp only [Q0, Q1, Q2, Q3, Q4, Q5, Q6, Q7, Q8, ge_iff_le, gt_iff_lt] at hc34
              refine WP.seq fun K35 hK35 => ?_
              refine WP.drw tabOk (by kernel_rfl) rfl (by kernel_rfl) ?_
              refine d_step (o_move rfl ⟨rfl, rfl, rfl⟩) ?_
              refine d_step (o_move rfl ⟨rfl, rfl, rfl⟩) ?_
              refine d_step (o_bin_int rfl rfl (by decide) rfl ⟨rfl, rfl, rfl⟩) ?_
              refine d_step (o_sl_str (m := 2) (p := 2) rfl th9 rfl rfl rfl ⟨rfl, rfl, rfl⟩) ?_
              refine d_step (o_move rfl ⟨rfl, rfl, rfl⟩) ?_
              refine d_step (o_move rfl ⟨rfl, rfl, rfl⟩) ?_
              refine d_step (o_ix rfl rfl th9 rfl (by decide) (by rw [hm]; decide) ⟨rfl, rfl, rfl⟩) ?_
              refine d_step (o_pcall (s195 _ _) rfl ⟨rfl, rfl, rfl⟩) ?_
              refine d_step (o_assign rfl ⟨rfl, rfl, rfl⟩) ?_
              refine d_nil ?_
              refine hK35 _ ?_
              refine WP.seq fun K36 hK36 => ?_
              refine WP.seq fun K37 hK37 => ?_
              refine WP.reg tabOk rfl ?_
              refine u_step (o_move rfl ?_)
              refine u_step (o_bin_int rfl rfl (by decide) rfl ?_)
              refine u_nil ?_
              refine hK37 _ ?_
              refine WP.cond rfl (fun hc38 => ?_) (fun hc38 => ?_)
              ·
                try simp only [Q0, Q1, Q2, Q3, Q4, Q5, Q6, Q7, Q8, ge_iff_le, gt_iff_lt] at hc38
                refine WP.seq fun K39 hK39 => ?_
                refine WP.reg tabOk rfl ?_
                refine u_step (o_assign rfl ?_)
                refine u_nil ?_
                refine hK39 _ ?_
                refine WP.ret ?_
                refine ret_ok rfl ?_ (by omega) (fun _ _ => rfl)
                -- ret 5
                refine congrArg (D.int .i64) ?_
                unfold runeI
                rw [if_neg (by omega), if_neg (by omega)]
              ·
                try simp only [Q0, Q1, Q2, Q3, Q4, Q5, Q6, Q7, Q8, ge_iff_le, gt_iff_lt] at hc38
                exfalso
                have hq := hc38
                simp [Go.Lib.indexByte] at hq
            ·
              try simp only [Q0, Q1, Q2, Q3, Q4, Q5, Q6, Q7, Q8, ge_iff_le, gt_iff_lt] at hc34
              exfalso
              have hq := hc34
              simp at hq
              have h0 : bAt [36, 0] 1 = 0 := rfl
              omega
          ·
            try simp only [Q0, Q1, Q2, Q3, Q4, Q5, Q6, Q7, Q8, ge_iff_le, gt_iff_lt] at hc31
            refine WP.exit ?_
            refine hK28 _ ?_
            refine WP.seq fun K40 hK40 => ?_
            refine WP.seq fun K41 hK41 => ?_
            refine WP.reg tabOk rfl ?_
            refine u_step (o_assign rfl ?_)
            refine u_nil ?_
            refine hK41 _ ?_
            refine WP.ret ?_
            refine ret_ok rfl ?_ (by omega) (fun _ _ => rfl)
            -- ret 6
            refine congrArg (D.int .i64) ?_
            unfold runeI
            rw [if_neg (by omega), if_neg (by omega)]
        ·
          trivial
        ·
          have hw : IntKind.i64.wrap (((Utf8.encode c).data.toList.length : Int) - 1) = (m : Int) := by rw [hm, wrap_i64 (by omega) (by have := encode_len4 c; omega)]; omega
          refine Le.al ?_
          simp only [List.forall_mem_cons]
          exact ⟨rfl, rfl, (by rw [← hw]; rfl), (by rw [← hw]; rfl), by simp⟩

end Go.Proofs.YtpkcbdhjnnnkbaaGreat.Abs

set_option linter.unusedVariables false
set_option linter.unusedSimpArgs false
set_option maxRecDepth 10000
namespace Go.Proofs.YtpkcbdhjnnnkbaaGreat.Abs
open Go
theorem any_bad (s : Str) : s.any badC = decide ((36 : UInt8) ∈ s ∨ (0 : UInt8) ∈ s) := by
  rw [Bool.eq_iff_iff]
  simp only [List.any_eq_true, decide_eq_true_eq, badC]
  constructor
  · rintro ⟨x, hx, rfl | rfl⟩
    · exact .inl hx
    · exact .inr hx
  · rintro (h | h)
    · exact ⟨_, h, .inl rfl⟩
    · exact ⟨_, h, .inr rfl⟩
theorem badC_get {s : Str} {i : Nat} (h : i < s.length) : decide ((s[((i : Int)).toNat]?.getD 0).toNat = 36 ∨ (s[((i : Int)).toNat]?.getD 0).toNat = 0) = badC (s[i]'h) := by
  rw [badC_nat]; simp [h]

theorem fn150 : FnOk Tryz.prog 150 55 [4] (bodyOf Tryz.f150) := ⟨Tryz.f150, Tryz.func150, by kernel_rfl, by decide, by kernel_rfl, by kernel_rfl⟩
theorem s150 (s : Str) : PSpec Tryz.prog 150 [.d (.str s), .d (.str [36, 0])] (.d (.int .i64 (anyI s))) := by
  refine PSpec.bd fun hbd => ?_
  have hx : s.length ≤ 9223372036854775807 := hbd.1
  refine PSpec.of fn150 (by simp) fun o nk => ?_
  refine WP.seq fun K1 hK1 => ?_
  refine WP.reg tabOk rfl ?_
  refine u_step (o_assign rfl ?_)
  refine u_nil ?_
  refine hK1 _ ?_
  refine WP.seq fun K2 hK2 => ?_
  refine WP.seq fun K3 hK3 => ?_
  refine WP.reg tabOk rfl ?_
  refine u_step (o_move rfl ?_)
  refine u_step (o_bin_str rfl (show _ = SV.d (.str []) from rfl) rfl ?_)
  refine u_nil ?_
  refine hK3 _ ?_
  refine WP.cond rfl (fun hc4 => ?_) (fun hc4 => ?_)
  ·
    try simp only [Q0, Q1, Q2, Q3, Q4, Q5, Q6, Q7, Q8, ge_iff_le, gt_iff_lt] at hc4
    exact absurd hc4 (by decide)
  ·
    try simp only [Q0, Q1, Q2, Q3, Q4, Q5, Q6, Q7, Q8, ge_iff_le, gt_iff_lt] at hc4
    refine WP.skip ?_
    refine hK2 _ ?_
    refine WP.seq fun K5 hK5 => ?_
    refine WP.seq fun K6 hK6 => ?_
    refine WP.reg tabOk rfl ?_
    refine u_step (o_move rfl ?_)
    refine u_step (o_len_str rfl th9 rfl ?_)
    refine u_step (o_bin_int rfl rfl (by decide) rfl ?_)
    refine u_nil ?_
    refine hK6 _ ?_
    refine WP.cond rfl (fun hc7 => ?_) (fun hc7 => ?_)
    ·
      try simp only [Q0, Q1, Q2, Q3, Q4, Q5, Q6, Q7, Q8, ge_iff_le, gt_iff_lt] at hc7
      exact absurd hc7 (by decide)
    ·
      try simp only [Q0, Q1, Q2, Q3, Q4, Q5, Q6, Q7, Q8, ge_iff_le, gt_iff_lt] at hc7
      refine WP.skip ?_
      refine hK5 _ ?_
      refine WP.seq fun K8 hK8 => ?_
      refine WP.seq fun K9 hK9 => ?_
      refine WP.reg tabOk rfl ?_
      refine u_step (o_move rfl ?_)
      refine u_step (o_len_str rfl th9 rfl ?_)
      refine u_step (o_pcall (s176 _) rfl ?_)
      refine u_nil ?_
      refine hK9 _ ?_
      refine WP.cond rfl (fun hc10 => ?_) (fun hc10 => ?_)
      ·
        try simp only [Q0, Q1, Q2, Q3, Q4, Q5, Q6, Q7, Q8, ge_iff_le, gt_iff_lt] at hc10
        refine WP.seq fun K11 hK11 => ?_
        refine WP.reg tabOk rfl ?_
        refine u_step (o_move rfl ?_)
        refine u_step (o_pcall (s177) rfl ?_)
        refine u_step (o_moveV (v := .tup _) rfl ?_)
        refine u_step (o_ext rfl rfl ?_)
        refine u_step (o_ext rfl rfl ?_)
        refine u_step (g_alloc th149 rfl fun o12 hb12 hk12 => ?_)
        refine u_step0 (g_sta rfl rfl th149 rfl hb12 (by simp [setA]) fun o13 hb13 hk13 => ?_)
        have hb13 : _ = some (AO.box ((setA 2).map .d)) := (hb13).trans (by simp [setA])
        refine u_step (o_assign rfl ?_)
        refine u_nil ?_
        refine hK11 _ ?_
        refine WP.seq fun K14 hK14 => ?_
        refine WP.reg tabOk rfl ?_
        refine u_step (o_move rfl ?_)
        refine u_nil ?_
        refine hK14 _ ?_
        refine WP.cond rfl (fun hc15 => ?_) (fun hc15 => ?_)
        ·
          try simp only [Q0, Q1, Q2, Q3, Q4, Q5, Q6, Q7, Q8, ge_iff_le, gt_iff_lt] at hc15
          refine WP.seq fun K16 hK16 => ?_
          refine WP.seq fun K17 hK17 => ?_
          refine WP.reg tabOk rfl ?_
          refine u_step (o_assign rfl ?_)
          refine u_nil ?_
          refine hK17 _ ?_
          refine WP.block ?_
          refine WP.loopL (ι := Nat) (fun i => ⟨al [(0, .d (.str s)), (6, .loc nk 0), (8, .d (.int .i64 i))], o13, (nk + 1)⟩) (fun i => i ≤ s.length ∧ ∀ (j : Nat) (hj : j < s.length), j < i → badC (s[j]'hj) = false) (fun i => s.length - i) (fun i hA => ?_) 0 ?_ ?_
          ·
            obtain ⟨hle_i, hin_i⟩ := hA
            refine WP.seq fun K18 hK18 => ?_
            refine WP.seq fun K19 hK19 => ?_
            refine WP.reg tabOk rfl ?_
            refine u_step (o_move rfl ?_)
            refine u_step (o_move rfl ?_)
            refine u_step (o_len_str rfl th9 rfl ?_)
            refine u_step (o_bin_int rfl rfl (by decide) rfl ?_)
            refine u_nil ?_
            refine hK19 _ ?_
            refine WP.cond rfl (fun hc20 => ?_) (fun hc20 => ?_)
            ·
              try simp only [Q0, Q1, Q2, Q3, Q4, Q5, Q6, Q7, Q8, ge_iff_le, gt_iff_lt] at hc20
              refine WP.skip ?_
              refine hK18 _ ?_
              refine WP.seq fun K21 hK21 => ?_
              refine WP.block ?_
              refine WP.seq fun K22 hK22 => ?_
              refine WP.reg tabOk rfl ?_
              refine u_step (o_move rfl ?_)
              refine u_step (o_move rfl ?_)
              refine u_step (o_ix rfl rfl th9 rfl ?_ ?_ ?_)
              · omega
              · simp; omega
              refine u_step (o_scall (s178 (c := (s[((i : Int)).toNat]?.getD 0).toNat) hb13 (by omega) (UInt8.toNat_lt _)) rfl ?_)
              refine u_nil ?_
              refine hK22 _ ?_
              refine WP.cond rfl (fun hc23 => ?_) (fun hc23 => ?_)
              ·
                try simp only [Q0, Q1, Q2, Q3, Q4, Q5, Q6, Q7, Q8, ge_iff_le, gt_iff_lt] at hc23
                refine WP.seq fun K24 hK24 => ?_
                refine WP.reg tabOk rfl ?_
                refine u_step (o_move rfl ?_)
                refine u_step (o_assign rfl ?_)
                refine u_nil ?_
                refine hK24 _ ?_
                refine WP.ret ?_
                refine ret_ok rfl ?_ (by omega) (fun t ht => (hk13 t (by omega)).trans ((hk12 t (by omega))))
                -- ret 1
                refine congrArg (D.int .i64) ?_
                exact (firstI_at (p := badC) (xs := s) (i := i) (by omega) (by rw [← badC_get (by omega)]; exact decide_eq_true hc23) hin_i).symm
              ·
                try simp only [Q0, Q1, Q2, Q3, Q4, Q5, Q6, Q7, Q8, ge_iff_le, gt_iff_lt] at hc23
                refine WP.skip ?_
                refine hK21 _ ?_
                refine WP.reg tabOk rfl ?_
                refine u_step (o_move rfl ?_)
                refine u_step (o_bin_int rfl rfl (by decide) rfl ?_)
                refine u_step (o_assign rfl ?_)
                refine u_nil ?_
                -- back
                refine ⟨i + 1, ⟨by omega, ?_⟩, by omega, ?_⟩
                · intro j hj h1
                  by_cases h2 : j = i
                  · subst h2; rw [← badC_get (by omega)]; exact decide_eq_false hc23
                  · exact hin_i j hj (by omega)
                · refine Le.al ?_
                  simp only [List.forall_mem_cons]
                  exact ⟨rfl, rfl, cnt (by omega), by simp⟩
            ·
              try simp only [Q0, Q1, Q2, Q3, Q4, Q5, Q6, Q7, Q8, ge_iff_le, gt_iff_lt] at hc20
              refine WP.exit ?_
              refine hK16 _ ?_
              refine WP.seq fun K25 hK25 => ?_
              refine WP.reg tabOk rfl ?_
              refine u_step (o_assign rfl ?_)
              refine u_nil ?_
              refine hK25 _ ?_
              refine WP.ret ?_
              refine ret_ok rfl ?_ (by omega) (fun t ht => (hk13 t (by omega)).trans ((hk12 t (by omega))))
              -- ret 2
              refine congrArg (D.int .i64) ?_
              exact (firstI_none (p := badC) (xs := s) fun j hj => hin_i j hj (by omega)).symm
          ·
            simp
          ·
            refine Le.al ?_
            simp only [List.forall_mem_cons]
            exact ⟨rfl, rfl, rfl, by simp⟩
        ·
          try simp only [Q0, Q1, Q2, Q3, Q4, Q5, Q6, Q7, Q8, ge_iff_le, gt_iff_lt] at hc15
          cases hc15
      ·
        try simp only [Q0, Q1, Q2, Q3, Q4, Q5, Q6, Q7, Q8, ge_iff_le, gt_iff_lt] at hc10
        refine WP.skip ?_
        refine hK8 _ ?_
        refine WP.seq fun K26 hK26 => ?_
        refine WP.seq fun K27 hK27 => ?_
        refine WP.reg tabOk rfl ?_
        refine u_step (o_move rfl ?_)
        refine u_step (g_range rfl th9 rfl fun o28 hb28 hk28 => ?_)
        refine u_nil ?_
        refine hK27 _ ?_
        refine WP.block ?_
        refine WP.loopL (ι := Nat × (Nat → Option AO)) (fun ⟨i, o2⟩ => ⟨al [(0, .d (.str s)), (1, .d (.str [36, 0])), (45, .raw nk)], o2, (nk + 1)⟩) (fun ⟨i, o2⟩ => i ≤ s.length ∧ o2 nk = some (.raw (itOb s i)) ∧ (∀ t, t < nk → o2 t = o t) ∧ ∀ (j : Nat) (hj : j < s.length), j < i → badC (s[j]'hj) = false) (fun ⟨i, o2⟩ => s.length - i) (fun ⟨i, o2⟩ hA => ?_) ⟨0, o28⟩ ?_ ?_
        ·
          obtain ⟨hle, hob, hfr, hin⟩ := hA
          refine WP.seq fun K29 hK29 => ?_
          refine WP.reg tabOk rfl ?_
          refine u_step (g_next rfl hob (fun hp30 o30 hb30 hk30 => ?_) (fun hp30 => ?_))
          ·
            have hlt : i < s.length := hp30
            obtain ⟨hd1, hd2, hd3, hd4⟩ := dec_at hlt
            refine u_step (o_ext rfl rfl ?_)
            refine u_nil ?_
            refine hK29 _ ?_
            refine WP.seq fun K31 hK31 => ?_
            refine WP.cond rfl (fun hc32 => ?_) (fun hc32 => by cases hc32)
            refine WP.skip ?_
            refine hK31 _ ?_
            refine WP.block ?_
            refine WP.seq fun K33 hK33 => ?_
            refine WP.reg tabOk rfl ?_
            refine u_step (o_ext rfl rfl ?_)
            refine u_step (o_ext rfl rfl ?_)
            refine u_step (o_assign rfl ?_)
            refine u_step (o_assign rfl ?_)
            refine u_nil ?_
            refine hK33 _ ?_
            refine WP.seq fun K34 hK34 => ?_
            refine WP.reg tabOk rfl ?_
            refine u_step (o_move rfl ?_)
            refine u_step (o_move rfl ?_)
            refine u_step (o_pcall (s175 _ (by omega) (by have := dec_bd ⟨s.toArray⟩ i; omega)) rfl ?_)
            refine u_step (o_bin_int rfl rfl (by decide) rfl ?_)
            refine u_nil ?_
            refine hK34 _ ?_
            refine WP.cond rfl (fun hc35 => ?_) (fun hc35 => ?_)
            ·
              try simp only [Q0, Q1, Q2, Q3, Q4, Q5, Q6, Q7, Q8, ge_iff_le, gt_iff_lt] at hc35
              refine WP.seq fun K36 hK36 => ?_
              refine WP.reg tabOk rfl ?_
              refine u_step (o_move rfl ?_)
              refine u_step (o_assign rfl ?_)
              refine u_nil ?_
              refine hK36 _ ?_
              refine WP.ret ?_
              refine ret_ok rfl ?_ (by omega) (fun t ht => (hk30 t (by omega)).trans ((hfr t (by omega))))
              -- ret 3
              refine congrArg (D.int .i64) ?_
              exact (firstI_at (p := badC) (xs := s) (i := i) (by omega) (by rw [← hd4]; exact decide_eq_true hc35) hin).symm
            ·
              try simp only [Q0, Q1, Q2, Q3, Q4, Q5, Q6, Q7, Q8, ge_iff_le, gt_iff_lt] at hc35
              refine WP.skip ?_
              -- back
              refine ⟨⟨i + _, o30⟩, ⟨by omega, hb30, (fun t ht => (hk30 t (by omega)).trans ((hfr t (by omega)))), ?_⟩, by simp only; omega, ?_⟩
              · intro j hj h1
                rcases Nat.lt_trichotomy j i with h2 | h2 | h2
                · exact hin j hj h2
                · subst h2; rw [← hd4]; exact decide_eq_false hc35
                · exact hd3 j hj h2 h1
              · refine Le.al ?_
                simp only [List.forall_mem_cons]
                exact ⟨rfl, rfl, rfl, by simp⟩
          ·
            refine u_step (o_ext rfl rfl ?_)
            refine u_nil ?_
            refine hK29 _ ?_
            refine WP.seq fun K37 hK37 => ?_
            refine WP.cond rfl (fun hc38 => by cases hc38) (fun hc38 => ?_)
            refine WP.exit ?_
            refine hK26 _ ?_
            refine WP.seq fun K39 hK39 => ?_
            refine WP.reg tabOk rfl ?_
            refine u_step (o_assign rfl ?_)
            refine u_nil ?_
            refine hK39 _ ?_
            refine WP.ret ?_
            refine ret_ok rfl ?_ (by omega) (fun t ht => (hfr t (by omega)))
            -- ret 4
            refine congrArg (D.int .i64) ?_
            exact (firstI_none (p := badC) (xs := s) fun j hj => hin j hj (by omega)).symm
        ·
          exact ⟨by omega, hb28, (fun t ht => (hk28 t (by omega))), by simp⟩
        ·
          refine Le.al ?_
          simp only [List.forall_mem_cons]
          exact ⟨rfl, rfl, rfl, by simp⟩

theorem fn103 : FnOk Tryz.prog 103 9 [4] (bodyOf Tryz.f103) := ⟨Tryz.f103, Tryz.func103, by kernel_rfl, by decide, by kernel_rfl, by kernel_rfl⟩
theorem s103 (s : Str) : PSpec Tryz.prog 103 [.d (.str s), .d (.str [36, 0])] (.d (.bool (s.any badC))) := by
  refine PSpec.of fn103 (by simp) fun o nk => ?_
  refine WP.seq fun K1 hK1 => ?_
  refine WP.reg tabOk rfl ?_
  refine u_step (o_assign rfl ?_)
  refine u_nil ?_
  refine hK1 _ ?_
  refine WP.seq fun K2 hK2 => ?_
  refine WP.reg tabOk rfl ?_
  refine u_step (o_move rfl ?_)
  refine u_step (o_move rfl ?_)
  refine u_step (o_pcall (s150 s) rfl ?_)
  refine u_step (o_bin_int rfl rfl (by decide) rfl ?_)
  refine u_step (o_assign rfl ?_)
  refine u_nil ?_
  refine hK2 _ ?_
  refine WP.ret ?_
  refine ret_ok rfl ?_ (by omega) (fun _ _ => rfl)
  -- ret 1
  rw [← firstI_nn]
  rfl

theorem fn48 : FnOk Tryz.prog 48 16 [2] (bodyOf Tryz.f48) := ⟨Tryz.f48, Tryz.func48, by kernel_rfl, by decide, by kernel_rfl, by kernel_rfl⟩
theorem s48 (s : Str) : PSpec Tryz.prog 48 [.d (.str s)] (.d (.bool (collV s))) := by
  refine PSpec.of fn48 (by simp) fun o nk => ?_
  refine WP.seq fun K1 hK1 => ?_
  refine WP.reg tabOk rfl ?_
  refine u_step (o_assign rfl ?_)
  refine u_nil ?_
  refine hK1 _ ?_
  refine WP.seq fun K2 hK2 => ?_
  refine WP.reg tabOk rfl ?_
  refine u_step (o_move rfl ?_)
  refine u_step (o_len_str rfl th9 rfl ?_)
  refine u_step (o_bin_int rfl rfl (by decide) rfl ?_)
  refine u_step (o_move rfl ?_)
  apply u_guard
  · exact GC.t _
  · intro hg
    refine o_move rfl ⟨rfl, rfl, rfl⟩
  apply u_guard
  · exact GC.t _
  · intro hg; try simp only [hg, cnd_true]; try simp only [hg, cnd_true, Bool.true_and]
    refine o_len_str rfl th9 rfl ⟨rfl, rfl, rfl⟩
  apply u_guard
  · exact GC.t _
  · intro hg; try simp only [hg, cnd_true]; try simp only [hg, cnd_true, Bool.true_and]
    refine o_bin_int rfl rfl (by decide) rfl ⟨rfl, rfl, rfl⟩
  refine u_step (o_pick_and rfl rfl rfl ?_)
  refine u_step (o_move rfl ?_)
  apply u_guard
  · exact GC.t _
  · intro hg
    refine o_move rfl ⟨rfl, rfl, rfl⟩
  apply u_guard
  · exact GC.t _
  · intro hg; try simp only [hg, cnd_true]; try simp only [hg, cnd_true, Bool.true_and]
    refine o_pcall (s103 s) rfl ⟨rfl, rfl, rfl⟩
  apply u_guard
  · exact GC.t _
  · intro hg; try simp only [hg, cnd_true]; try simp only [hg, cnd_true, Bool.true_and]
    refine o_not rfl ⟨rfl, rfl, rfl⟩
  refine u_step (o_pick_and rfl rfl rfl ?_)
  refine u_step (o_assign rfl ?_)
  refine u_nil ?_
  refine hK2 _ ?_
  refine WP.ret ?_
  refine ret_ok rfl ?_ (by omega) (fun _ _ => rfl)
  -- ret 1
  refine congrArg D.bool ?_
  rw [any_bad, Bool.eq_iff_iff]
  simp only [collV, Bool.and_eq_true, decide_eq_true_eq, Bool.not_eq_true', decide_eq_false_iff_not, not_or]
  constructor
  · rintro ⟨⟨h1, h2⟩, h3, h4⟩; exact ⟨by omega, by omega, h3, h4⟩
  · rintro ⟨h1, h2, h3, h4⟩; exact ⟨⟨by omega, by omega⟩, h3, h4⟩

end Go.Proofs.YtpkcbdhjnnnkbaaGreat.Abs

set_option linter.unusedVariables false
set_option linter.unusedSimpArgs false
set_option maxRecDepth 10000
namespace Go.Proofs.YtpkcbdhjnnnkbaaGreat.Abs
open Go
def hasC (k : Int) : Bool := decide (2 ≤ k) && decide (k ≤ 7)
def hasT (k : Int) : Bool := decide (k = 7)
def hasI (k : Int) : Bool := decide (k = 2) || decide (k = 3) || decide (k = 4)
def hasD (k : Int) : Bool := decide (k = 2)
def hasS (k : Int) : Bool := decide (k = 3)
theorem s64b (k : Int) : PSpec Tryz.prog 64 [.d (.int .i64 k)] (.tup [.d (.bool (hasC k)), .d (.bool (hasT k)), .d (.bool (hasI k)), .d (.bool (hasD k)), .d (.bool (hasS k))]) := by
  have h := s64 k
  have e : (hasL k).map SV.d = [.d (.bool (hasC k)), .d (.bool (hasT k)), .d (.bool (hasI k)), .d (.bool (hasD k)), .d (.bool (hasS k))] := by
    unfold hasL hasC hasT hasI hasD hasS
    by_cases h2 : k = 2
    · subst h2; rfl
    · by_cases h3 : k = 3
      · subst h3; rfl
      · by_cases h4 : k = 4
        · subst h4; rfl
        · by_cases h5 : k = 5
          · subst h5; rfl
          · by_cases h6 : k = 6
            · subst h6; rfl
            · by_cases h7 : k = 7
              · subst h7; rfl
              · have : (decide (2 ≤ k) && decide (k ≤ 7)) = false := by simp; omega
                simp [h2, h3, h4, h5, h6, h7, this]
  rwa [e] at h
structure Bits (k : Int) : Prop where
  t1 : (bitsOf .and .i64 (fieldsV k) 2 != 0) = hasT k
  t0 : (bitsOf .and .i64 (fieldsV k) 2 == 0) = !hasT k
  c1 : (bitsOf .and .i64 (fieldsV k) 1 != 0) = hasC k
  c0 : (bitsOf .and .i64 (fieldsV k) 1 == 0) = !hasC k
  i1 : (bitsOf .and .i64 (fieldsV k) 4 != 0) = hasI k
  i0 : (bitsOf .and .i64 (fieldsV k) 4 == 0) = !hasI k
  d1 : (bitsOf .and .i64 (fieldsV k) 8 != 0) = hasD k
  d0 : (bitsOf .and .i64 (fieldsV k) 8 == 0) = !hasD k
  s1 : (bitsOf .and .i64 (fieldsV k) 16 != 0) = hasS k
  s0 : (bitsOf .and .i64 (fieldsV k) 16 == 0) = !hasS k
theorem bits_of {k : Int} (h : 1 ≤ k ∧ k ≤ 7) : Bits k := by
  obtain rfl | rfl | rfl | rfl | rfl | rfl | rfl : k = 1 ∨ k = 2 ∨ k = 3 ∨ k = 4 ∨ k = 5 ∨ k = 6 ∨ k = 7 := by omega
  all_goals exact ⟨by decide, by decide, by decide, by decide, by decide, by decide, by decide, by decide, by decide, by decide⟩
theorem fields_ok (k : Int) : decide (fieldsV k < 0) = !(decide (1 ≤ k) && decide (k ≤ 7)) := by
  by_cases h : 1 ≤ k ∧ k ≤ 7
  · obtain rfl | rfl | rfl | rfl | rfl | rfl | rfl : k = 1 ∨ k = 2 ∨ k = 3 ∨ k = 4 ∨ k = 5 ∨ k = 6 ∨ k = 7 := by omega
    all_goals rfl
  · have : fieldsV k = -1 := by
      unfold fieldsV
      rw [if_neg (by omega), if_neg (by omega), if_neg (by omega), if_neg (by omega), if_neg (by omega), if_neg (by omega)]
    rw [this, Bool.eq_iff_iff]
    simp
    omega
def namesE (e : Etr) : Bool := (if hasT e.kind = true then collV e.to && !decide (e.to = e.coll) else decide (e.to = [])) && (if hasC e.kind = true then collV e.coll else decide (e.coll = []))
noncomputable def valuesE (e : Etr) : Bool := (hasI e.kind || noneV e.id) && (hasD e.kind || noneV e.doc) && (hasS e.kind || decide (e.deltas.length = 0)) && (!hasI e.kind || decide (checkV e.id = 0)) && (!hasD e.kind || mayDocV e.doc e.id) && (!hasS e.kind || mayDeltasV e.deltas)
/-- May an entry be? -/
noncomputable def mayE (e : Etr) : Bool := (decide (1 ≤ e.kind) && decide (e.kind ≤ 7)) && (decide (0 ≤ e.term) && decide (e.term ≤ 1099511627776)) && (decide (0 ≤ e.session) && decide (e.session ≤ 255)) && (decide (0 ≤ e.number) && decide (e.number ≤ 1099511627776)) && (!decide (e.kind = 1) || decide (e.session = 0) && decide (e.number = 0)) && namesE e && valuesE e
structure OkE (e : Etr) : Prop where
  ri : rngV e.id
  si : szV e.id ≤ 1099511627776
  rd : rngV e.doc
  sd : szV e.doc ≤ 1099511627776
  ds : e.deltas.length ≤ 64 → ∀ d ∈ e.deltas, okD d
theorem coll_nil : collV [] = false := by decide
theorem d_imp_i {k : Int} (h : hasD k = true) : hasI k = true := by
  unfold hasD at h; unfold hasI; simp at h; simp [h]
theorem pvE {P : Program} {f : FuncId} {v w : Val} {r : SV} (h : PSpec P f [.d (encV v), .d (encV w)] r) : PSpec P f [.d (.agg (valCells v)), .d (.agg (valCells w))] r := by
  rw [encV_eq, encV_eq] at h; exact h

theorem fn101 : FnOk Tryz.prog 101 40 [4] (bodyOf Tryz.f101) := ⟨Tryz.f101, Tryz.func101, by kernel_rfl, by decide, by kernel_rfl, by kernel_rfl⟩
theorem s101 (e : Etr) (hk : 1 ≤ e.kind ∧ e.kind ≤ 7) : PSpec Tryz.prog 101 [.d (encE e), .d (.int .i64 (fieldsV e.kind))] (.d (.bool (namesE e))) := by
  have hb := bits_of hk
  refine PSpec.of fn101 (by simp) fun o nk => ?_
  refine WP.seq fun K1 hK1 => ?_
  refine WP.reg tabOk rfl ?_
  refine u_step (g_box rfl fun o2 hb2 hk2 => ?_)
  refine u_step (o_assign rfl ?_)
  refine u_nil ?_
  refine hK1 _ ?_
  refine WP.seq fun K3 hK3 => ?_
  refine WP.seq fun K4 hK4 => ?_
  refine WP.reg tabOk rfl ?_
  refine u_step (o_move rfl ?_)
  refine u_step (o_bin_int rfl rfl (by decide) rfl ?_)
  refine u_step (o_bin_int rfl rfl (by decide) rfl ?_)
  refine u_step (o_move rfl ?_)
  apply u_guard
  · exact GC.t _
  · intro hg
    refine o_fa_loc rfl th30 rfl rfl th9 (by decide) hb2 ⟨rfl, rfl, rfl⟩
  apply u_guard
  · exact GC.t _
  · intro hg; try simp only [hg, cnd_true]; try simp only [hg, cnd_true, Bool.true_and]
    refine o_ld_loc rfl th9 rfl hb2 rfl ⟨rfl, rfl, rfl⟩
  apply u_guard
  · exact GC.t _
  · intro hg; try simp only [hg, cnd_true]; try simp only [hg, cnd_true, Bool.true_and]
    refine o_pcall (s48 _) rfl ⟨rfl, rfl, rfl⟩
  apply u_guard
  · exact GC.t _
  · intro hg; try simp only [hg, cnd_true]; try simp only [hg, cnd_true, Bool.true_and]
    refine o_not rfl ⟨rfl, rfl, rfl⟩
  apply u_guard
  · exact GC.t _
  · intro hg; try simp only [hg, cnd_true]; try simp only [hg, cnd_true, Bool.true_and]
    refine o_move rfl ⟨rfl, rfl, rfl⟩
  apply u_guard
  · exact GC.cf _ _
  · intro hg
    refine o_fa_loc rfl th30 rfl rfl th9 (by decide) hb2 ⟨rfl, rfl, rfl⟩
  apply u_guard
  · exact GC.cf _ _
  · intro hg; try simp only [hg, cnd_true]; try simp only [hg, cnd_true, Bool.true_and]
    refine o_ld_loc rfl th9 rfl hb2 rfl ⟨rfl, rfl, rfl⟩
  apply u_guard
  · exact GC.cf _ _
  · intro hg
    refine o_fa_loc rfl th30 rfl rfl th9 (by decide) hb2 ⟨rfl, rfl, rfl⟩
  apply u_guard
  · exact GC.cf _ _
  · intro hg; try simp only [hg, cnd_true]; try simp only [hg, cnd_true, Bool.true_and]
    refine o_ld_loc rfl th9 rfl hb2 rfl ⟨rfl, rfl, rfl⟩
  apply u_guard
  · exact GC.cf _ _
  · intro hg; try simp only [hg, cnd_true]; try simp only [hg, cnd_true, Bool.true_and]
    refine o_bin_str rfl rfl rfl ⟨rfl, rfl, rfl⟩
  apply u_guard
  · exact GC.t _
  · intro hg; try simp only [hg, cnd_true]; try simp only [hg, cnd_true, Bool.true_and]
    refine o_pick_or rfl rfl rfl ⟨rfl, rfl, rfl⟩
  refine u_step (o_pick_and rfl rfl rfl ?_)
  refine u_step (o_move rfl ?_)
  apply u_guard
  · exact GC.f _
  · intro hg
    refine o_move rfl ⟨rfl, rfl, rfl⟩
  apply u_guard
  · exact GC.f _
  · intro hg; try simp only [hg, cnd_true]; try simp only [hg, cnd_true, Bool.true_and]
    refine o_bin_int rfl rfl (by decide) rfl ⟨rfl, rfl, rfl⟩
  apply u_guard
  · exact GC.f _
  · intro hg; try simp only [hg, cnd_true]; try simp only [hg, cnd_true, Bool.true_and]
    refine o_bin_int rfl rfl (by decide) rfl ⟨rfl, rfl, rfl⟩
  apply u_guard
  · exact GC.f _
  · intro hg; try simp only [hg, cnd_true]; try simp only [hg, cnd_true, Bool.true_and]
    refine o_move rfl ⟨rfl, rfl, rfl⟩
  apply u_guard
  · exact GC.ct _ _
  · intro hg
    refine o_fa_loc rfl th30 rfl rfl th9 (by decide) hb2 ⟨rfl, rfl, rfl⟩
  apply u_guard
  · exact GC.ct _ _
  · intro hg; try simp only [hg, cnd_true]; try simp only [hg, cnd_true, Bool.true_and]
    refine o_ld_loc rfl th9 rfl hb2 rfl ⟨rfl, rfl, rfl⟩
  apply u_guard
  · exact GC.ct _ _
  · intro hg; try simp only [hg, cnd_true]; try simp only [hg, cnd_true, Bool.true_and]
    refine o_bin_str rfl (show _ = SV.d (.str []) from rfl) rfl ⟨rfl, rfl, rfl⟩
  apply u_guard
  · exact GC.f _
  · intro hg; try simp only [hg, cnd_true]; try simp only [hg, cnd_true, Bool.true_and]
    refine o_pick_and rfl rfl rfl ⟨rfl, rfl, rfl⟩
  refine u_step (o_pick_or rfl rfl rfl ?_)
  refine u_nil ?_
  refine hK4 _ ?_
  refine WP.cond rfl (fun hc5 => ?_) (fun hc5 => ?_)
  ·
    try simp only [Q0, Q1, Q2, Q3, Q4, Q5, Q6, Q7, Q8, ge_iff_le, gt_iff_lt] at hc5
    refine WP.seq fun K6 hK6 => ?_
    refine WP.reg tabOk rfl ?_
    refine u_step (o_assign rfl ?_)
    refine u_nil ?_
    refine hK6 _ ?_
    refine WP.ret ?_
    refine ret_ok rfl ?_ (by omega) (fun t ht => (hk2 t (by omega)))
    -- ret 1
    clear hK1 hK3 hK4 hK6
    refine congrArg D.bool ?_
    try simp only [hb.t1, hb.t0, hb.c1, hb.c0, hb.i1, hb.i0, hb.d1, hb.d0, hb.s1, hb.s0] at hc5
    try simp only [hb.t1, hb.t0, hb.c1, hb.c0, hb.i1, hb.i0, hb.d1, hb.d0, hb.s1, hb.s0]
    simp only [namesE, List.length_map] at *
    grind
  ·
    try simp only [Q0, Q1, Q2, Q3, Q4, Q5, Q6, Q7, Q8, ge_iff_le, gt_iff_lt] at hc5
    refine WP.skip ?_
    refine hK3 _ ?_
    refine WP.seq fun K7 hK7 => ?_
    refine WP.seq fun K8 hK8 => ?_
    refine WP.reg tabOk rfl ?_
    refine u_step (o_move rfl ?_)
    refine u_step (o_bin_int rfl rfl (by decide) rfl ?_)
    refine u_step (o_bin_int rfl rfl (by decide) rfl ?_)
    refine u_nil ?_
    refine hK8 _ ?_
    refine WP.cond rfl (fun hc9 => ?_) (fun hc9 => ?_)
    ·
      try simp only [Q0, Q1, Q2, Q3, Q4, Q5, Q6, Q7, Q8, ge_iff_le, gt_iff_lt] at hc9
      refine WP.seq fun K10 hK10 => ?_
      refine WP.reg tabOk rfl ?_
      refine u_step (o_fa_loc rfl th30 rfl rfl th9 (by decide) hb2 ?_)
      refine u_step (o_ld_loc rfl th9 rfl hb2 rfl ?_)
      refine u_step (o_pcall (s48 _) rfl ?_)
      refine u_step (o_assign rfl ?_)
      refine u_nil ?_
      refine hK10 _ ?_
      refine WP.ret ?_
      refine ret_ok rfl ?_ (by omega) (fun t ht => (hk2 t (by omega)))
      -- ret 2
      clear hK1 hK3 hK4 hK7 hK8 hK10
      refine congrArg D.bool ?_
      try simp only [hb.t1, hb.t0, hb.c1, hb.c0, hb.i1, hb.i0, hb.d1, hb.d0, hb.s1, hb.s0] at hc5 hc9
      try simp only [hb.t1, hb.t0, hb.c1, hb.c0, hb.i1, hb.i0, hb.d1, hb.d0, hb.s1, hb.s0]
      simp only [namesE, List.length_map] at *
      grind
    ·
      try simp only [Q0, Q1, Q2, Q3, Q4, Q5, Q6, Q7, Q8, ge_iff_le, gt_iff_lt] at hc9
      refine WP.skip ?_
      refine hK7 _ ?_
      refine WP.seq fun K11 hK11 => ?_
      refine WP.reg tabOk rfl ?_
      refine u_step (o_fa_loc rfl th30 rfl rfl th9 (by decide) hb2 ?_)
      refine u_step (o_ld_loc rfl th9 rfl hb2 rfl ?_)
      refine u_step (o_bin_str rfl (show _ = SV.d (.str []) from rfl) rfl ?_)
      refine u_step (o_assign rfl ?_)
      refine u_nil ?_
      refine hK11 _ ?_
      refine WP.ret ?_
      refine ret_ok rfl ?_ (by omega) (fun t ht => (hk2 t (by omega)))
      -- ret 3
      clear hK1 hK3 hK4 hK7 hK8 hK11
      refine congrArg D.bool ?_
      try simp only [hb.t1, hb.t0, hb.c1, hb.c0, hb.i1, hb.i0, hb.d1, hb.d0, hb.s1, hb.s0] at hc5 hc9
      try simp only [hb.t1, hb.t0, hb.c1, hb.c0, hb.i1, hb.i0, hb.d1, hb.d0, hb.s1, hb.s0]
      simp only [namesE, List.length_map] at *
      grind

theorem fn102 : FnOk Tryz.prog 102 63 [4] (bodyOf Tryz.f102) := ⟨Tryz.f102, Tryz.func102, by kernel_rfl, by decide, by kernel_rfl, by kernel_rfl⟩
theorem s102 (e : Etr) (hk : 1 ≤ e.kind ∧ e.kind ≤ 7) (ok : OkE e) : PSpec Tryz.prog 102 [.d (encE e), .d (.int .i64 (fieldsV e.kind))] (.d (.bool (valuesE e))) := by
  have hb := bits_of hk
  refine PSpec.of fn102 (by simp) fun o nk => ?_
  refine WP.seq fun K1 hK1 => ?_
  refine WP.reg tabOk rfl ?_
  refine u_step (g_box rfl fun o2 hb2 hk2 => ?_)
  refine u_step (o_assign rfl ?_)
  refine u_nil ?_
  refine hK1 _ ?_
  refine WP.seq fun K3 hK3 => ?_
  refine WP.block ?_
  refine WP.seq fun K4 hK4 => ?_
  refine WP.seq fun K5 hK5 => ?_
  refine WP.reg tabOk rfl ?_
  refine u_step (o_move rfl ?_)
  refine u_step (o_bin_int rfl rfl (by decide) rfl ?_)
  refine u_step (o_bin_int rfl rfl (by decide) rfl ?_)
  refine u_step (o_move rfl ?_)
  apply u_guard
  · exact GC.t _
  · intro hg
    refine o_fa_loc rfl th30 rfl rfl th27 (by decide) hb2 ⟨rfl, rfl, rfl⟩
  apply u_guard
  · exact GC.t _
  · intro hg; try simp only [hg, cnd_true]; try simp only [hg, cnd_true, Bool.true_and]
    refine o_ld_agg rfl th27 rfl hb2 rfl rfl rfl ⟨rfl, rfl, rfl⟩
  apply u_guard
  · exact GC.t _
  · intro hg; try simp only [hg, cnd_true]; try simp only [hg, cnd_true, Bool.true_and]
    refine o_pcall (pv (v := e.id) (s147 e.id ok.si)) rfl ⟨rfl, rfl, rfl⟩
  apply u_guard
  · exact GC.t _
  · intro hg; try simp only [hg, cnd_true]; try simp only [hg, cnd_true, Bool.true_and]
    refine o_not rfl ⟨rfl, rfl, rfl⟩
  refine u_step (o_pick_and rfl rfl rfl ?_)
  refine u_step (o_assign rfl ?_)
  refine u_nil ?_
  refine hK5 _ ?_
  refine WP.cond rfl (fun hc6 => ?_) (fun hc6 => ?_)
  ·
    try simp only [Q0, Q1, Q2, Q3, Q4, Q5, Q6, Q7, Q8, ge_iff_le, gt_iff_lt] at hc6
    refine WP.skip ?_
    refine hK4 _ ?_
    refine WP.cond rfl (fun hc7 => ?_) (fun hc7 => ?_)
    ·
      try simp only [Q0, Q1, Q2, Q3, Q4, Q5, Q6, Q7, Q8, ge_iff_le, gt_iff_lt] at hc7
      refine WP.seq fun K8 hK8 => ?_
      refine WP.reg tabOk rfl ?_
      refine u_step (o_assign rfl ?_)
      refine u_nil ?_
      refine hK8 _ ?_
      refine WP.ret ?_
      refine ret_ok rfl ?_ (by omega) (fun t ht => (hk2 t (by omega)))
      -- ret 1
      clear hK1 hK3 hK4 hK5 hK8
      refine congrArg D.bool ?_
      try simp only [hb.t1, hb.t0, hb.c1, hb.c0, hb.i1, hb.i0, hb.d1, hb.d0, hb.s1, hb.s0] at hc6 hc7
      try simp only [hb.t1, hb.t0, hb.c1, hb.c0, hb.i1, hb.i0, hb.d1, hb.d0, hb.s1, hb.s0]
      simp only [valuesE, List.length_map] at *
      grind
    ·
      try simp only [Q0, Q1, Q2, Q3, Q4, Q5, Q6, Q7, Q8, ge_iff_le, gt_iff_lt] at hc7
      refine WP.seq fun K9 hK9 => ?_
      refine WP.reg tabOk rfl ?_
      refine u_step (o_move rfl ?_)
      refine u_step (o_bin_int rfl rfl (by decide) rfl ?_)
      refine u_step (o_bin_int rfl rfl (by decide) rfl ?_)
      refine u_step (o_move rfl ?_)
      apply u_guard
      · exact GC.t _
      · intro hg
        refine o_fa_loc rfl th30 rfl rfl th27 (by decide) hb2 ⟨rfl, rfl, rfl⟩
      apply u_guard
      · exact GC.t _
      · intro hg; try simp only [hg, cnd_true]; try simp only [hg, cnd_true, Bool.true_and]
        refine o_ld_agg rfl th27 rfl hb2 rfl rfl rfl ⟨rfl, rfl, rfl⟩
      apply u_guard
      · exact GC.t _
      · intro hg; try simp only [hg, cnd_true]; try simp only [hg, cnd_true, Bool.true_and]
        refine o_pcall (pv (v := e.id) (s123 e.id ok.ri ok.si)) rfl ⟨rfl, rfl, rfl⟩
      apply u_guard
      · exact GC.t _
      · intro hg; try simp only [hg, cnd_true]; try simp only [hg, cnd_true, Bool.true_and]
        refine o_bin_int rfl rfl (by decide) rfl ⟨rfl, rfl, rfl⟩
      refine u_step (o_pick_and rfl rfl rfl ?_)
      refine u_step (o_assign rfl ?_)
      refine u_nil ?_
      refine hK9 _ ?_
      refine WP.cond rfl (fun hc10 => ?_) (fun hc10 => ?_)
      ·
        try simp only [Q0, Q1, Q2, Q3, Q4, Q5, Q6, Q7, Q8, ge_iff_le, gt_iff_lt] at hc10
        refine WP.seq fun K11 hK11 => ?_
        refine WP.reg tabOk rfl ?_
        refine u_step (o_assign rfl ?_)
        refine u_nil ?_
        refine hK11 _ ?_
        refine WP.ret ?_
        refine ret_ok rfl ?_ (by omega) (fun t ht => (hk2 t (by omega)))
        -- ret 2
        clear hK1 hK3 hK4 hK5 hK9 hK11
        refine congrArg D.bool ?_
        try simp only [hb.t1, hb.t0, hb.c1, hb.c0, hb.i1, hb.i0, hb.d1, hb.d0, hb.s1, hb.s0] at hc6 hc7 hc10
        try simp only [hb.t1, hb.t0, hb.c1, hb.c0, hb.i1, hb.i0, hb.d1, hb.d0, hb.s1, hb.s0]
        simp only [valuesE, List.length_map] at *
        grind
      ·
        try simp only [Q0, Q1, Q2, Q3, Q4, Q5, Q6, Q7, Q8, ge_iff_le, gt_iff_lt] at hc10
        refine WP.seq fun K12 hK12 => ?_
        refine WP.reg tabOk rfl ?_
        refine u_step (o_move rfl ?_)
        refine u_step (o_bin_int rfl rfl (by decide) rfl ?_)
        refine u_step (o_bin_int rfl rfl (by decide) rfl ?_)
        refine u_step (o_move rfl ?_)
        apply u_guard
        · exact GC.t _
        · intro hg
          refine o_fa_loc rfl th30 rfl rfl th27 (by decide) hb2 ⟨rfl, rfl, rfl⟩
        apply u_guard
        · exact GC.t _
        · intro hg; try simp only [hg, cnd_true]; try simp only [hg, cnd_true, Bool.true_and]
          refine o_ld_agg rfl th27 rfl hb2 rfl rfl rfl ⟨rfl, rfl, rfl⟩
        apply u_guard
        · exact GC.t _
        · intro hg
          refine o_fa_loc rfl th30 rfl rfl th27 (by decide) hb2 ⟨rfl, rfl, rfl⟩
        apply u_guard
        · exact GC.t _
        · intro hg; try simp only [hg, cnd_true]; try simp only [hg, cnd_true, Bool.true_and]
          refine o_ld_agg rfl th27 rfl hb2 rfl rfl rfl ⟨rfl, rfl, rfl⟩
        apply u_guard
        · exact GC.t _
        · intro hg; try simp only [hg, cnd_true]; try simp only [hg, cnd_true, Bool.true_and]
          refine o_pcall (pvE (v := e.doc) (w := e.id) (s148 e.doc e.id ok.rd ok.sd (by simp only [hb.d1] at hg; have hi := d_imp_i hg; have hq := hc10; simp only [hb.i1, hi, Bool.true_and, bne_eq_false_iff_eq] at hq; exact check_may hq))) rfl ⟨rfl, rfl, rfl⟩
        apply u_guard
        · exact GC.t _
        · intro hg; try simp only [hg, cnd_true]; try simp only [hg, cnd_true, Bool.true_and]
          refine o_not rfl ⟨rfl, rfl, rfl⟩
        refine u_step (o_pick_and rfl rfl rfl ?_)
        refine u_step (o_assign rfl ?_)
        refine u_nil ?_
        refine hK12 _ ?_
        refine WP.cond rfl (fun hc13 => ?_) (fun hc13 => ?_)
        ·
          try simp only [Q0, Q1, Q2, Q3, Q4, Q5, Q6, Q7, Q8, ge_iff_le, gt_iff_lt] at hc13
          refine WP.seq fun K14 hK14 => ?_
          refine WP.reg tabOk rfl ?_
          refine u_step (o_assign rfl ?_)
          refine u_nil ?_
          refine hK14 _ ?_
          refine WP.ret ?_
          refine ret_ok rfl ?_ (by omega) (fun t ht => (hk2 t (by omega)))
          -- ret 3
          clear hK1 hK3 hK4 hK5 hK9 hK12 hK14
          refine congrArg D.bool ?_
          try simp only [hb.t1, hb.t0, hb.c1, hb.c0, hb.i1, hb.i0, hb.d1, hb.d0, hb.s1, hb.s0] at hc6 hc7 hc10 hc13
          try simp only [hb.t1, hb.t0, hb.c1, hb.c0, hb.i1, hb.i0, hb.d1, hb.d0, hb.s1, hb.s0]
          simp only [valuesE, List.length_map] at *
          grind
        ·
          try simp only [Q0, Q1, Q2, Q3, Q4, Q5, Q6, Q7, Q8, ge_iff_le, gt_iff_lt] at hc13
          refine WP.skip ?_
          refine hK3 _ ?_
          refine WP.seq fun K15 hK15 => ?_
          refine WP.reg tabOk rfl ?_
          refine u_step (o_move rfl ?_)
          refine u_step (o_bin_int rfl rfl (by decide) rfl ?_)
          refine u_step (o_bin_int rfl rfl (by decide) rfl ?_)
          refine u_step (o_move rfl ?_)
          apply u_guard
          · exact GC.f _
          · intro hg
            refine o_fa_loc rfl th30 rfl rfl th28 (by decide) hb2 ⟨rfl, rfl, rfl⟩
          apply u_guard
          · exact GC.f _
          · intro hg; try simp only [hg, cnd_true]; try simp only [hg, cnd_true, Bool.true_and]
            refine o_ld_loc rfl th28 rfl hb2 rfl ⟨rfl, rfl, rfl⟩
          apply u_guard
          · exact GC.f _
          · intro hg; try simp only [hg, cnd_true]; try simp only [hg, cnd_true, Bool.true_and]
            refine o_pcall (s149 e.deltas ok.ds) rfl ⟨rfl, rfl, rfl⟩
          refine u_step (o_pick_or rfl rfl rfl ?_)
          refine u_step (o_assign rfl ?_)
          refine u_nil ?_
          refine hK15 _ ?_
          refine WP.ret ?_
          refine ret_ok rfl ?_ (by omega) (fun t ht => (hk2 t (by omega)))
          -- ret 4
          clear hK1 hK3 hK4 hK5 hK9 hK12 hK15
          refine congrArg D.bool ?_
          try simp only [hb.t1, hb.t0, hb.c1, hb.c0, hb.i1, hb.i0, hb.d1, hb.d0, hb.s1, hb.s0] at hc6 hc7 hc10 hc13
          try simp only [hb.t1, hb.t0, hb.c1, hb.c0, hb.i1, hb.i0, hb.d1, hb.d0, hb.s1, hb.s0]
          simp only [valuesE, List.length_map] at *
          grind
  ·
    try simp only [Q0, Q1, Q2, Q3, Q4, Q5, Q6, Q7, Q8, ge_iff_le, gt_iff_lt] at hc6
    refine WP.seq fun K16 hK16 => ?_
    refine WP.reg tabOk rfl ?_
    refine u_step (o_move rfl ?_)
    refine u_step (o_bin_int rfl rfl (by decide) rfl ?_)
    refine u_step (o_bin_int rfl rfl (by decide) rfl ?_)
    refine u_step (o_move rfl ?_)
    apply u_guard
    · exact GC.t _
    · intro hg
      refine o_fa_loc rfl th30 rfl rfl th27 (by decide) hb2 ⟨rfl, rfl, rfl⟩
    apply u_guard
    · exact GC.t _
    · intro hg; try simp only [hg, cnd_true]; try simp only [hg, cnd_true, Bool.true_and]
      refine o_ld_agg rfl th27 rfl hb2 rfl rfl rfl ⟨rfl, rfl, rfl⟩
    apply u_guard
    · exact GC.t _
    · intro hg; try simp only [hg, cnd_true]; try simp only [hg, cnd_true, Bool.true_and]
      refine o_pcall (pv (v := e.doc) (s147 e.doc ok.sd)) rfl ⟨rfl, rfl, rfl⟩
    apply u_guard
    · exact GC.t _
    · intro hg; try simp only [hg, cnd_true]; try simp only [hg, cnd_true, Bool.true_and]
      refine o_not rfl ⟨rfl, rfl, rfl⟩
    refine u_step (o_pick_and rfl rfl rfl ?_)
    refine u_step (o_assign rfl ?_)
    refine u_nil ?_
    refine hK16 _ ?_
    refine WP.cond rfl (fun hc17 => ?_) (fun hc17 => ?_)
    ·
      try simp only [Q0, Q1, Q2, Q3, Q4, Q5, Q6, Q7, Q8, ge_iff_le, gt_iff_lt] at hc17
      refine WP.skip ?_
      refine hK4 _ ?_
      refine WP.cond rfl (fun hc18 => ?_) (fun hc18 => ?_)
      ·
        try simp only [Q0, Q1, Q2, Q3, Q4, Q5, Q6, Q7, Q8, ge_iff_le, gt_iff_lt] at hc18
        refine WP.seq fun K19 hK19 => ?_
        refine WP.reg tabOk rfl ?_
        refine u_step (o_assign rfl ?_)
        refine u_nil ?_
        refine hK19 _ ?_
        refine WP.ret ?_
        refine ret_ok rfl ?_ (by omega) (fun t ht => (hk2 t (by omega)))
        -- ret 5
        clear hK1 hK3 hK4 hK5 hK16 hK19
        refine congrArg D.bool ?_
        try simp only [hb.t1, hb.t0, hb.c1, hb.c0, hb.i1, hb.i0, hb.d1, hb.d0, hb.s1, hb.s0] at hc6 hc17 hc18
        try simp only [hb.t1, hb.t0, hb.c1, hb.c0, hb.i1, hb.i0, hb.d1, hb.d0, hb.s1, hb.s0]
        simp only [valuesE, List.length_map] at *
        grind
      ·
        try simp only [Q0, Q1, Q2, Q3, Q4, Q5, Q6, Q7, Q8, ge_iff_le, gt_iff_lt] at hc18
        refine WP.seq fun K20 hK20 => ?_
        refine WP.reg tabOk rfl ?_
        refine u_step (o_move rfl ?_)
        refine u_step (o_bin_int rfl rfl (by decide) rfl ?_)
        refine u_step (o_bin_int rfl rfl (by decide) rfl ?_)
        refine u_step (o_move rfl ?_)
        apply u_guard
        · exact GC.t _
        · intro hg
          refine o_fa_loc rfl th30 rfl rfl th27 (by decide) hb2 ⟨rfl, rfl, rfl⟩
        apply u_guard
        · exact GC.t _
        · intro hg; try simp only [hg, cnd_true]; try simp only [hg, cnd_true, Bool.true_and]
          refine o_ld_agg rfl th27 rfl hb2 rfl rfl rfl ⟨rfl, rfl, rfl⟩
        apply u_guard
        · exact GC.t _
        · intro hg; try simp only [hg, cnd_true]; try simp only [hg, cnd_true, Bool.true_and]
          refine o_pcall (pv (v := e.id) (s123 e.id ok.ri ok.si)) rfl ⟨rfl, rfl, rfl⟩
        apply u_guard
        · exact GC.t _
        · intro hg; try simp only [hg, cnd_true]; try simp only [hg, cnd_true, Bool.true_and]
          refine o_bin_int rfl rfl (by decide) rfl ⟨rfl, rfl, rfl⟩
        refine u_step (o_pick_and rfl rfl rfl ?_)
        refine u_step (o_assign rfl ?_)
        refine u_nil ?_
        refine hK20 _ ?_
        refine WP.cond rfl (fun hc21 => ?_) (fun hc21 => ?_)
        ·
          try simp only [Q0, Q1, Q2, Q3, Q4, Q5, Q6, Q7, Q8, ge_iff_le, gt_iff_lt] at hc21
          refine WP.seq fun K22 hK22 => ?_
          refine WP.reg tabOk rfl ?_
          refine u_step (o_assign rfl ?_)
          refine u_nil ?_
          refine hK22 _ ?_
          refine WP.ret ?_
          refine ret_ok rfl ?_ (by omega) (fun t ht => (hk2 t (by omega)))
          -- ret 6
          clear hK1 hK3 hK4 hK5 hK16 hK20 hK22
          refine congrArg D.bool ?_
          try simp only [hb.t1, hb.t0, hb.c1, hb.c0, hb.i1, hb.i0, hb.d1, hb.d0, hb.s1, hb.s0] at hc6 hc17 hc18 hc21
          try simp only [hb.t1, hb.t0, hb.c1, hb.c0, hb.i1, hb.i0, hb.d1, hb.d0, hb.s1, hb.s0]
          simp only [valuesE, List.length_map] at *
          grind
        ·
          try simp only [Q0, Q1, Q2, Q3, Q4, Q5, Q6, Q7, Q8, ge_iff_le, gt_iff_lt] at hc21
          refine WP.seq fun K23 hK23 => ?_
          refine WP.reg tabOk rfl ?_
          refine u_step (o_move rfl ?_)
          refine u_step (o_bin_int rfl rfl (by decide) rfl ?_)
          refine u_step (o_bin_int rfl rfl (by decide) rfl ?_)
          refine u_step (o_move rfl ?_)
          apply u_guard
          · exact GC.t _
          · intro hg
            refine o_fa_loc rfl th30 rfl rfl th27 (by decide) hb2 ⟨rfl, rfl, rfl⟩
          apply u_guard
          · exact GC.t _
          · intro hg; try simp only [hg, cnd_true]; try simp only [hg, cnd_true, Bool.true_and]
            refine o_ld_agg rfl th27 rfl hb2 rfl rfl rfl ⟨rfl, rfl, rfl⟩
          apply u_guard
          · exact GC.t _
          · intro hg
            refine o_fa_loc rfl th30 rfl rfl th27 (by decide) hb2 ⟨rfl, rfl, rfl⟩
          apply u_guard
          · exact GC.t _
          · intro hg; try simp only [hg, cnd_true]; try simp only [hg, cnd_true, Bool.true_and]
            refine o_ld_agg rfl th27 rfl hb2 rfl rfl rfl ⟨rfl, rfl, rfl⟩
          apply u_guard
          · exact GC.t _
          · intro hg; try simp only [hg, cnd_true]; try simp only [hg, cnd_true, Bool.true_and]
            refine o_pcall (pvE (v := e.doc) (w := e.id) (s148 e.doc e.id ok.rd ok.sd (by simp only [hb.d1] at hg; have hi := d_imp_i hg; have hq := hc21; simp only [hb.i1, hi, Bool.true_and, bne_eq_false_iff_eq] at hq; exact check_may hq))) rfl ⟨rfl, rfl, rfl⟩
          apply u_guard
          · exact GC.t _
          · intro hg; try simp only [hg, cnd_true]; try simp only [hg, cnd_true, Bool.true_and]
            refine o_not rfl ⟨rfl, rfl, rfl⟩
          refine u_step (o_pick_and rfl rfl rfl ?_)
          refine u_step (o_assign rfl ?_)
          refine u_nil ?_
          refine hK23 _ ?_
          refine WP.cond rfl (fun hc24 => ?_) (fun hc24 => ?_)
          ·
            try simp only [Q0, Q1, Q2, Q3, Q4, Q5, Q6, Q7, Q8, ge_iff_le, gt_iff_lt] at hc24
            refine WP.seq fun K25 hK25 => ?_
            refine WP.reg tabOk rfl ?_
            refine u_step (o_assign rfl ?_)
            refine u_nil ?_
            refine hK25 _ ?_
            refine WP.ret ?_
            refine ret_ok rfl ?_ (by omega) (fun t ht => (hk2 t (by omega)))
            -- ret 7
            clear hK1 hK3 hK4 hK5 hK16 hK20 hK23 hK25
            refine congrArg D.bool ?_
            try simp only [hb.t1, hb.t0, hb.c1, hb.c0, hb.i1, hb.i0, hb.d1, hb.d0, hb.s1, hb.s0] at hc6 hc17 hc18 hc21 hc24
            try simp only [hb.t1, hb.t0, hb.c1, hb.c0, hb.i1, hb.i0, hb.d1, hb.d0, hb.s1, hb.s0]
            simp only [valuesE, List.length_map] at *
            grind
          ·
            try simp only [Q0, Q1, Q2, Q3, Q4, Q5, Q6, Q7, Q8, ge_iff_le, gt_iff_lt] at hc24
            refine WP.skip ?_
            refine hK3 _ ?_
            refine WP.seq fun K26 hK26 => ?_
            refine WP.reg tabOk rfl ?_
            refine u_step (o_move rfl ?_)
            refine u_step (o_bin_int rfl rfl (by decide) rfl ?_)
            refine u_step (o_bin_int rfl rfl (by decide) rfl ?_)
            refine u_step (o_move rfl ?_)
            apply u_guard
            · exact GC.f _
            · intro hg
              refine o_fa_loc rfl th30 rfl rfl th28 (by decide) hb2 ⟨rfl, rfl, rfl⟩
            apply u_guard
            · exact GC.f _
            · intro hg; try simp only [hg, cnd_true]; try simp only [hg, cnd_true, Bool.true_and]
              refine o_ld_loc rfl th28 rfl hb2 rfl ⟨rfl, rfl, rfl⟩
            apply u_guard
            · exact GC.f _
            · intro hg; try simp only [hg, cnd_true]; try simp only [hg, cnd_true, Bool.true_and]
              refine o_pcall (s149 e.deltas ok.ds) rfl ⟨rfl, rfl, rfl⟩
            refine u_step (o_pick_or rfl rfl rfl ?_)
            refine u_step (o_assign rfl ?_)
            refine u_nil ?_
            refine hK26 _ ?_
            refine WP.ret ?_
            refine ret_ok rfl ?_ (by omega) (fun t ht => (hk2 t (by omega)))
            -- ret 8
            clear hK1 hK3 hK4 hK5 hK16 hK20 hK23 hK26
            refine congrArg D.bool ?_
            try simp only [hb.t1, hb.t0, hb.c1, hb.c0, hb.i1, hb.i0, hb.d1, hb.d0, hb.s1, hb.s0] at hc6 hc17 hc18 hc21 hc24
            try simp only [hb.t1, hb.t0, hb.c1, hb.c0, hb.i1, hb.i0, hb.d1, hb.d0, hb.s1, hb.s0]
            simp only [valuesE, List.length_map] at *
            grind
    ·
      try simp only [Q0, Q1, Q2, Q3, Q4, Q5, Q6, Q7, Q8, ge_iff_le, gt_iff_lt] at hc17
      refine WP.reg tabOk rfl ?_
      refine u_step (o_move rfl ?_)
      refine u_step (o_bin_int rfl rfl (by decide) rfl ?_)
      refine u_step (o_bin_int rfl rfl (by decide) rfl ?_)
      refine u_step (o_move rfl ?_)
      apply u_guard
      · exact GC.t _
      · intro hg
        refine o_fa_loc rfl th30 rfl rfl th28 (by decide) hb2 ⟨rfl, rfl, rfl⟩
      apply u_guard
      · exact GC.t _
      · intro hg; try simp only [hg, cnd_true]; try simp only [hg, cnd_true, Bool.true_and]
        refine o_ld_loc rfl th28 rfl hb2 rfl ⟨rfl, rfl, rfl⟩
      apply u_guard
      · exact GC.t _
      · intro hg; try simp only [hg, cnd_true]; try simp only [hg, cnd_true, Bool.true_and]
        refine o_len_sl rfl th28 rfl ⟨rfl, rfl, rfl⟩
      apply u_guard
      · exact GC.t _
      · intro hg; try simp only [hg, cnd_true]; try simp only [hg, cnd_true, Bool.true_and]
        refine o_bin_int rfl rfl (by decide) rfl ⟨rfl, rfl, rfl⟩
      refine u_step (o_pick_and rfl rfl rfl ?_)
      refine u_step (o_assign rfl ?_)
      refine u_nil ?_
      refine hK4 _ ?_
      refine WP.cond rfl (fun hc27 => ?_) (fun hc27 => ?_)
      ·
        try simp only [Q0, Q1, Q2, Q3, Q4, Q5, Q6, Q7, Q8, ge_iff_le, gt_iff_lt] at hc27
        refine WP.seq fun K28 hK28 => ?_
        refine WP.reg tabOk rfl ?_
        refine u_step (o_assign rfl ?_)
        refine u_nil ?_
        refine hK28 _ ?_
        refine WP.ret ?_
        refine ret_ok rfl ?_ (by omega) (fun t ht => (hk2 t (by omega)))
        -- ret 9
        clear hK1 hK3 hK4 hK5 hK16 hK28
        refine congrArg D.bool ?_
        try simp only [hb.t1, hb.t0, hb.c1, hb.c0, hb.i1, hb.i0, hb.d1, hb.d0, hb.s1, hb.s0] at hc6 hc17 hc27
        try simp only [hb.t1, hb.t0, hb.c1, hb.c0, hb.i1, hb.i0, hb.d1, hb.d0, hb.s1, hb.s0]
        simp only [valuesE, List.length_map] at *
        grind
      ·
        try simp only [Q0, Q1, Q2, Q3, Q4, Q5, Q6, Q7, Q8, ge_iff_le, gt_iff_lt] at hc27
        refine WP.seq fun K29 hK29 => ?_
        refine WP.reg tabOk rfl ?_
        refine u_step (o_move rfl ?_)
        refine u_step (o_bin_int rfl rfl (by decide) rfl ?_)
        refine u_step (o_bin_int rfl rfl (by decide) rfl ?_)
        refine u_step (o_move rfl ?_)
        apply u_guard
        · exact GC.t _
        · intro hg
          refine o_fa_loc rfl th30 rfl rfl th27 (by decide) hb2 ⟨rfl, rfl, rfl⟩
        apply u_guard
        · exact GC.t _
        · intro hg; try simp only [hg, cnd_true]; try simp only [hg, cnd_true, Bool.true_and]
          refine o_ld_agg rfl th27 rfl hb2 rfl rfl rfl ⟨rfl, rfl, rfl⟩
        apply u_guard
        · exact GC.t _
        · intro hg; try simp only [hg, cnd_true]; try simp only [hg, cnd_true, Bool.true_and]
          refine o_pcall (pv (v := e.id) (s123 e.id ok.ri ok.si)) rfl ⟨rfl, rfl, rfl⟩
        apply u_guard
        · exact GC.t _
        · intro hg; try simp only [hg, cnd_true]; try simp only [hg, cnd_true, Bool.true_and]
          refine o_bin_int rfl rfl (by decide) rfl ⟨rfl, rfl, rfl⟩
        refine u_step (o_pick_and rfl rfl rfl ?_)
        refine u_step (o_assign rfl ?_)
        refine u_nil ?_
        refine hK29 _ ?_
        refine WP.cond rfl (fun hc30 => ?_) (fun hc30 => ?_)
        ·
          try simp only [Q0, Q1, Q2, Q3, Q4, Q5, Q6, Q7, Q8, ge_iff_le, gt_iff_lt] at hc30
          refine WP.seq fun K31 hK31 => ?_
          refine WP.reg tabOk rfl ?_
          refine u_step (o_assign rfl ?_)
          refine u_nil ?_
          refine hK31 _ ?_
          refine WP.ret ?_
          refine ret_ok rfl ?_ (by omega) (fun t ht => (hk2 t (by omega)))
          -- ret 10
          clear hK1 hK3 hK4 hK5 hK16 hK29 hK31
          refine congrArg D.bool ?_
          try simp only [hb.t1, hb.t0, hb.c1, hb.c0, hb.i1, hb.i0, hb.d1, hb.d0, hb.s1, hb.s0] at hc6 hc17 hc27 hc30
          try simp only [hb.t1, hb.t0, hb.c1, hb.c0, hb.i1, hb.i0, hb.d1, hb.d0, hb.s1, hb.s0]
          simp only [valuesE, List.length_map] at *
          grind
        ·
          try simp only [Q0, Q1, Q2, Q3, Q4, Q5, Q6, Q7, Q8, ge_iff_le, gt_iff_lt] at hc30
          refine WP.seq fun K32 hK32 => ?_
          refine WP.reg tabOk rfl ?_
          refine u_step (o_move rfl ?_)
          refine u_step (o_bin_int rfl rfl (by decide) rfl ?_)
          refine u_step (o_bin_int rfl rfl (by decide) rfl ?_)
          refine u_step (o_move rfl ?_)
          apply u_guard
          · exact GC.t _
          · intro hg
            refine o_fa_loc rfl th30 rfl rfl th27 (by decide) hb2 ⟨rfl, rfl, rfl⟩
          apply u_guard
          · exact GC.t _
          · intro hg; try simp only [hg, cnd_true]; try simp only [hg, cnd_true, Bool.true_and]
            refine o_ld_agg rfl th27 rfl hb2 rfl rfl rfl ⟨rfl, rfl, rfl⟩
          apply u_guard
          · exact GC.t _
          · intro hg
            refine o_fa_loc rfl th30 rfl rfl th27 (by decide) hb2 ⟨rfl, rfl, rfl⟩
          apply u_guard
          · exact GC.t _
          · intro hg; try simp only [hg, cnd_true]; try simp only [hg, cnd_true, Bool.true_and]
            refine o_ld_agg rfl th27 rfl hb2 rfl rfl rfl ⟨rfl, rfl, rfl⟩
          apply u_guard
          · exact GC.t _
          · intro hg; try simp only [hg, cnd_true]; try simp only [hg, cnd_true, Bool.true_and]
            refine o_pcall (pvE (v := e.doc) (w := e.id) (s148 e.doc e.id ok.rd ok.sd (by simp only [hb.d1] at hg; have hi := d_imp_i hg; have hq := hc30; simp only [hb.i1, hi, Bool.true_and, bne_eq_false_iff_eq] at hq; exact check_may hq))) rfl ⟨rfl, rfl, rfl⟩
          apply u_guard
          · exact GC.t _
          · intro hg; try simp only [hg, cnd_true]; try simp only [hg, cnd_true, Bool.true_and]
            refine o_not rfl ⟨rfl, rfl, rfl⟩
          refine u_step (o_pick_and rfl rfl rfl ?_)
          refine u_step (o_assign rfl ?_)
          refine u_nil ?_
          refine hK32 _ ?_
          refine WP.cond rfl (fun hc33 => ?_) (fun hc33 => ?_)
          ·
            try simp only [Q0, Q1, Q2, Q3, Q4, Q5, Q6, Q7, Q8, ge_iff_le, gt_iff_lt] at hc33
            refine WP.seq fun K34 hK34 => ?_
            refine WP.reg tabOk rfl ?_
            refine u_step (o_assign rfl ?_)
            refine u_nil ?_
            refine hK34 _ ?_
            refine WP.ret ?_
            refine ret_ok rfl ?_ (by omega) (fun t ht => (hk2 t (by omega)))
            -- ret 11
            clear hK1 hK3 hK4 hK5 hK16 hK29 hK32 hK34
            refine congrArg D.bool ?_
            try simp only [hb.t1, hb.t0, hb.c1, hb.c0, hb.i1, hb.i0, hb.d1, hb.d0, hb.s1, hb.s0] at hc6 hc17 hc27 hc30 hc33
            try simp only [hb.t1, hb.t0, hb.c1, hb.c0, hb.i1, hb.i0, hb.d1, hb.d0, hb.s1, hb.s0]
            simp only [valuesE, List.length_map] at *
            grind
          ·
            try simp only [Q0, Q1, Q2, Q3, Q4, Q5, Q6, Q7, Q8, ge_iff_le, gt_iff_lt] at hc33
            refine WP.skip ?_
            refine hK3 _ ?_
            refine WP.seq fun K35 hK35 => ?_
            refine WP.reg tabOk rfl ?_
            refine u_step (o_move rfl ?_)
            refine u_step (o_bin_int rfl rfl (by decide) rfl ?_)
            refine u_step (o_bin_int rfl rfl (by decide) rfl ?_)
            refine u_step (o_move rfl ?_)
            apply u_guard
            · exact GC.f _
            · intro hg
              refine o_fa_loc rfl th30 rfl rfl th28 (by decide) hb2 ⟨rfl, rfl, rfl⟩
            apply u_guard
            · exact GC.f _
            · intro hg; try simp only [hg, cnd_true]; try simp only [hg, cnd_true, Bool.true_and]
              refine o_ld_loc rfl th28 rfl hb2 rfl ⟨rfl, rfl, rfl⟩
            apply u_guard
            · exact GC.f _
            · intro hg; try simp only [hg, cnd_true]; try simp only [hg, cnd_true, Bool.true_and]
              refine o_pcall (s149 e.deltas ok.ds) rfl ⟨rfl, rfl, rfl⟩
            refine u_step (o_pick_or rfl rfl rfl ?_)
            refine u_step (o_assign rfl ?_)
            refine u_nil ?_
            refine hK35 _ ?_
            refine WP.ret ?_
            refine ret_ok rfl ?_ (by omega) (fun t ht => (hk2 t (by omega)))
            -- ret 12
            clear hK1 hK3 hK4 hK5 hK16 hK29 hK32 hK35
            refine congrArg D.bool ?_
            try simp only [hb.t1, hb.t0, hb.c1, hb.c0, hb.i1, hb.i0, hb.d1, hb.d0, hb.s1, hb.s0] at hc6 hc17 hc27 hc30 hc33
            try simp only [hb.t1, hb.t0, hb.c1, hb.c0, hb.i1, hb.i0, hb.d1, hb.d0, hb.s1, hb.s0]
            simp only [valuesE, List.length_map] at *
            grind

end Go.Proofs.YtpkcbdhjnnnkbaaGreat.Abs
