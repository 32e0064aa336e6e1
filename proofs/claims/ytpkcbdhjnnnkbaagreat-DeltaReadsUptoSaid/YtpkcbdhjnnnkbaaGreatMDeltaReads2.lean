/- Part 2 of the proof that DeltaReads: called with any bytes and any number that hold together at most 1048576 values and letters, the law answers true, and the bytes read afterwards as they read before. -/
import Derived.Test.YtpkcbdhjnnnkbaaGreatMDeltaReads1
import Derived.Laws.MakeOwn
import Derived.ArgAppend
import Derived.Orders
/- More operations: reads and writes through a row's elements, views, clipped slices, maps. Each is a function of what is told. -/
set_option linter.unusedVariables false
set_option linter.unusedSimpArgs false
namespace Go.Proofs.YtpkcbdhjnnnkbaaGreat.Abs
open Go

/-- A datum read within an element. -/
def D.at (f sz : Nat) (ag : Bool) (x : D) : Option D := if f = 0 ∧ x.leaf = !ag ∧ x.width = sz then some x else match x.sub f sz ag with
  | some y => if y.leaf = !ag ∧ y.width = sz then some y else none
  | none => none
/-- An element with some of its cells written. -/
def D.put (f : Nat) (ys : List D) : D → Option D
  | .agg cs => if f + ys.length ≤ cs.length ∧ ys.all D.leaf = true then some (.agg (cs.take f ++ ys ++ cs.drop (f + ys.length))) else none
  | _ => match f, ys with
    | 0, [y] => if y.leaf = true then some y else none
    | _, _ => none
/-- The slice of a row that a slot tells of. -/
def viewOf (o : Nat → Option AO) (z : Nat) : SV → Option (Nat × Nat × Nat × VC × List D)
  | .row q => match o q with
    | some (.row _ z' xs) => if z' = z then some (q, 0, xs.length, .full, xs) else none
    | _ => none
  | .view q l n c => match o q with
    | some (.row _ z' xs) => if z' = z ∧ l + n ≤ xs.length then some (q, l, n, c, xs) else none
    | _ => none
  | _ => none
theorem viewOf_ok {w : World} {S : Nat → Prop} {γ : Nat → Value} {o : Nat → Option AO} {nk : Nat} (hs : Sto w S γ o nk) {z q l n : Nat} {k : VC} {xs : List D} {c : SV} {v : Value} (h : SR w S γ o c v) (hv : viewOf o z c = some (q, l, n, k, xs)) :
    ∃ e, o q = some (.row e z xs) ∧ VW z l n k (γ q) v ∧ l + n ≤ xs.length := by
  unfold viewOf at hv
  split at hv
  · split at hv
    · rename_i e z' ys ho
      split at hv
      · rename_i hz
        subst hz
        simp only [Option.some.injEq, Prod.mk.injEq] at hv
        obtain ⟨rfl, rfl, rfl, rfl, rfl⟩ := hv
        refine ⟨e, ho, ?_, by omega⟩
        cases h with
        | row _ _ hr =>
          obtain rfl := hr _ _ _ ho
          obtain ⟨vs, hR⟩ := (hs.row _ _ _ _ ho).get
          rcases hR.blk with ⟨h1, rfl⟩ | ⟨g, cap, cur, h1, _, h3, _⟩
          · exact .inl ⟨h1, h1, rfl, rfl⟩
          · exact .inr ⟨g, _, cap, cap, h1, h3, by omega, fun _ => by omega, fun h => (by cases h), .inl (by rw [h1]; simp)⟩
      · cases hv
    · cases hv
  · split at hv
    · rename_i e z' ys ho
      split at hv
      · rename_i hz
        obtain ⟨rfl, hle⟩ := hz
        simp only [Option.some.injEq, Prod.mk.injEq] at hv
        obtain ⟨rfl, rfl, rfl, rfl, rfl⟩ := hv
        refine ⟨e, ho, ?_, hle⟩
        cases h with
        | view _ _ _ _ _ hr => exact hr _ _ _ ho
      · cases hv
    · cases hv
  · cases hv

theorem vw_blk {z l n : Nat} {c : VC} {u v : Value} (h : VW z l n c u v) (hn : 0 < n) : ∃ g m k p, u = .slice (some ⟨g, 0, none⟩) m k ∧ v = .slice (some ⟨g, l * z, none⟩) n p := by
  rcases h with ⟨_, _, _, rfl⟩ | ⟨g, m, k, p, h1, h2, _, _, _, h5 | ⟨h5, _⟩⟩
  · omega
  · exact ⟨g, m, k, p, h1, h5⟩
  · omega
theorem vw_len {z l n : Nat} {c : VC} {u v : Value} (h : VW z l n c u v) : ∃ A k, v = .slice A n k := by
  rcases h with ⟨_, rfl, _, rfl⟩ | ⟨g, m, k, p, h1, h2, _, _, _, rfl | ⟨h5, f, _, rfl⟩⟩
  · exact ⟨_, _, rfl⟩
  · exact ⟨_, _, rfl⟩
  · have : n = 0 := by omega
    subst this
    exact ⟨_, _, rfl⟩
section
variable {w : World} {S : Nat → Prop} {γ : Nat → Value}
/-- What is read of a slice. -/
def srcN (o : Nat → Option AO) (z : Nat) : SV → Option (List D)
  | .d .nil => some []
  | .d (.sl z' ys) => if z' = z then some ys else none
  | .dx z' ys => if z' = z then some ys else none
  | c => match viewOf o z c with
    | some (_, l, n, _, xs) => some ((xs.drop l).take n)
    | none => none
theorem srcN_ok {o : Nat → Option AO} {nk : Nat} (hs : Sto w S γ o nk) {c : SV} {v : Value} {z : Nat} {ys : List D} (h : SR w S γ o c v) (hc : srcN o z c = some ys) : Src w S v z ys := by
  unfold srcN at hc
  split at hc
  · exact src_of hs h hc
  · exact src_of hs h hc
  · rename_i z' ys'
    cases h with
    | dx _ _ _ hr _ => exact src_of (γ := γ) (o := o) hs (SR.d _ _ hr) (by simpa [srcOf] using hc)
  · split at hc
    · rename_i q l n k xs hv
      simp only [Option.some.injEq] at hc
      subst hc
      obtain ⟨e, ho, hvw, hle⟩ := viewOf_ok hs h hv
      obtain ⟨vs, hR⟩ := (hs.row _ _ _ _ ho).get
      have hvl := hR.len
      have hl : ((vs.drop l).take n).length = n := by simp; omega
      have hidx : ∀ {α : Type} (xs : List α) (i : Nat) (x : α), ((xs.drop l).take n)[i]? = some x → xs[l + i]? = some x := fun xs i x h => by
        rw [List.getElem?_take] at h
        split at h
        · rwa [List.getElem?_drop] at h
        · cases h
      refine ⟨(vs.drop l).take n, by simp [hvl], fun i x u h1 h2 => hR.rd _ _ _ (hidx _ _ _ h1) (hidx _ _ _ h2), fun i u h2 => hR.sz _ _ (hidx _ _ _ h2), ?_, ?_⟩
      · by_cases hn : n = 0
        · subst hn
          obtain ⟨A, k, rfl⟩ := vw_len hvw
          cases A with
          | none => exact .inl ⟨_, rfl, by simp⟩
          | some A => exact .inr ⟨A, k, by simp, by simp [cellsOf]⟩
        · obtain ⟨g, m, k0, p, hu, rfl⟩ := vw_blk hvw (by omega)
          rw [hu] at hR
          refine .inr ⟨⟨g, l * z, none⟩, p, by rw [hl], fun pp u hp => ?_⟩
          obtain ⟨i, jj, u', k1, k2, rfl⟩ := cellsOf_get (fun i u h2 => hR.sz _ _ (hidx _ _ _ h2)) pp u hp
          have := hR.cell (hidx _ _ _ k1) k2
          rw [Addr.add_mid, ← Nat.add_assoc, ← Nat.add_mul]
          exact this
      · have : xs.length ≤ 9223372036854775807 := by
          rcases hR.blk with ⟨_, h2⟩ | ⟨g', cap, cur, h2, _, h3, h4, _⟩
          · subst h2; simp
          · simp only [maxLen] at h4; omega
        omega
    · cases hc

end
/-- Bounds of a cut of n elements, of which up to b can be had. -/
def vbnd (n b : Nat) (lo hi mx : Option SV) : Option (Nat × Nat × Option Nat) :=
  match (match mx with
    | none => some none
    | some x => (bnd b x).map some) with
  | none => none
  | some m => match (match hi, m with
      | none, none => some n
      | none, some _ => none
      | some x, none => bnd b x
      | some x, some k => bnd k x) with
    | none => none
    | some h => match (match lo with
        | none => some 0
        | some x => bnd h x) with
      | none => none
      | some l => some (l, h, m)
theorem run_vbnd {P : Program} {w : World} {S : Nat → Prop} {γ : Nat → Value} {o : Nat → Option AO} {n b cap l h : Nat} {m : Option Nat} {lo hi mx : Option SV} {vl vh vm : Option Value} (h1 : BV w S γ o lo vl) (h2 : BV w S γ o hi vh) (h3 : BV w S γ o mx vm)
    (hnb : n ≤ b) (hbc : b ≤ cap) (hb : vbnd n b lo hi mx = some (l, h, m)) :
    ∃ m', (Instr.sliceBounds true n cap vl vh vm).run P w = .ok (l, h, m') w ∧ l ≤ h ∧ h ≤ m' ∧ m' ≤ cap ∧ h ≤ b ∧ (m = none → m' = cap) ∧ ∀ k, m = some k → m' = k := by
  unfold vbnd at hb
  split at hb
  · cases hb
  · rename_i m0 hm0
    split at hb
    · cases hb
    · rename_i h0 hh0
      split at hb
      · cases hb
      · rename_i l0 hl0
        simp only [Option.some.injEq, Prod.mk.injEq] at hb
        obtain ⟨rfl, rfl, rfl⟩ := hb
        cases mx with
        | none =>
          cases vm with
          | some v => exact h3.elim
          | none =>
            simp only [Option.some.injEq] at hm0
            subst hm0
            cases hi with
            | none =>
              cases vh with
              | some v => exact h2.elim
              | none =>
                simp only [Option.some.injEq] at hh0
                subst hh0
                cases lo with
                | none =>
                  cases vl with
                  | some v => exact h1.elim
                  | none =>
                    simp only [Option.some.injEq] at hl0
                    subst hl0
                    exact ⟨cap, by simp [Instr.sliceBounds], Nat.zero_le _, by omega, Nat.le_refl _, hnb, fun _ => rfl, by simp⟩
                | some c =>
                  cases vl with
                  | none => exact h1.elim
                  | some v =>
                    simp only at hl0
                    have hr := fun code => run_bnd (P := P) (code := code) h1 hl0 (Nat.le_refl _)
                    exact ⟨cap, by simp [Instr.sliceBounds, (hr _).1], (hr .sliceB).2, by omega, Nat.le_refl _, hnb, fun _ => rfl, by simp⟩
            | some d =>
              cases vh with
              | none => exact h2.elim
              | some u =>
                simp only at hh0
                have hr2 := fun code => run_bnd (P := P) (code := code) h2 hh0 hbc
                have hle := (hr2 .sliceB).2
                cases lo with
                | none =>
                  cases vl with
                  | some v => exact h1.elim
                  | none =>
                    simp only [Option.some.injEq] at hl0
                    subst hl0
                    exact ⟨cap, by simp [Instr.sliceBounds, (hr2 _).1], Nat.zero_le _, by omega, Nat.le_refl _, hle, fun _ => rfl, by simp⟩
                | some c =>
                  cases vl with
                  | none => exact h1.elim
                  | some v =>
                    simp only at hl0
                    have hr := fun code => run_bnd (P := P) (code := code) h1 hl0 (Nat.le_refl _)
                    exact ⟨cap, by simp [Instr.sliceBounds, (hr _).1, (hr2 _).1], (hr .sliceB).2, by omega, Nat.le_refl _, hle, fun _ => rfl, by simp⟩
        | some c0 =>
          cases vm with
          | none => exact h3.elim
          | some vb =>
            simp only at hm0
            obtain ⟨k, hk, rfl⟩ := Option.map_eq_some_iff.1 hm0
            have hr3 := fun code => run_bnd (P := P) (code := code) h3 hk hbc
            have hkb := (hr3 .sliceB).2
            cases hi with
            | none => simp at hh0
            | some d =>
              cases vh with
              | none => exact h2.elim
              | some u =>
                simp only at hh0
                have hr2 := fun code => run_bnd (P := P) (code := code) h2 hh0 (Nat.le_refl _)
                have hle := (hr2 .sliceB).2
                cases lo with
                | none =>
                  cases vl with
                  | some v => exact h1.elim
                  | none =>
                    simp only [Option.some.injEq] at hl0
                    subst hl0
                    exact ⟨k, by simp [Instr.sliceBounds, (hr2 _).1, (hr3 _).1], Nat.zero_le _, hle, by omega, by omega, by simp, by simp⟩
                | some c =>
                  cases vl with
                  | none => exact h1.elim
                  | some v =>
                    simp only at hl0
                    have hr := fun code => run_bnd (P := P) (code := code) h1 hl0 (Nat.le_refl _)
                    exact ⟨k, by simp [Instr.sliceBounds, (hr _).1, (hr2 _).1, (hr3 _).1], (hr .sliceB).2, hle, by omega, by omega, by simp, by simp⟩

/-! ### maps -/
/-- The key's place. -/
def eqK : D → D → Bool
  | .str x, .str y => decide (x = y)
  | .int _ x, .int _ y => decide (x = y)
  | _, _ => false
def kfind (k : D) : List (D × D) → Nat → Option (Nat × D)
  | [], _ => none
  | (a, v) :: r, i => match eqK k a with
    | true => some (i, v)
    | false => kfind k r (i + 1)
/-- Keys that can be told apart at once. -/
def keyK (k : TK) (x : D) : Bool :=
  match k, x with
  | .str, .str _ => true
  | .int a, .int b _ => decide (a = b)
  | _, _ => false
def keysOk (k : TK) (x : D) (kvs : List (D × D)) : Bool := keyK k x && kvs.all fun p => keyK k p.1
def zD (i : TI) : Option D :=
  match i.z with
  | some l => if i.k.agg = true then some (.agg l) else match l with
    | [d] => some d
    | _ => none
  | none => none
def mapOf (o : Nat → Option AO) : SV → Option (List (D × D))
  | .raw q => match o q with
    | some (.raw (.map kvs)) => some kvs
    | _ => none
  | .d (.nilk 0) => some []
  | _ => none

def VC.cap (c : VC) (a n : Nat) : Nat :=
  match c with
  | .full => a
  | _ => n
def VC.cut (c : VC) (h : Nat) : Option Nat → VC
  | none => match c with
    | .full => .full
    | _ => .unk
  | some k => if k = h then .exact else .unk
def seqC (o : Nat → Option AO) : Nat → List (Nat × SV) → Option (List SV)
  | _, [] => some []
  | k, (i, c) :: r => if i = k ∧ oneC o c = true then match seqC o (k + 1) r with
      | some cs => some (c :: cs)
      | none => none
    else none
def eqV (k : TK) (x y : D) : Option Bool :=
  match k, x, y with
  | .int _, .int a m, .int b n => if a = b then some (decide (m = n)) else none
  | .bool, .bool a, .bool b => some (a == b)
  | .str, .str a, .str b => some (decide (a = b))
  | _, _, _ => none
/-- Fields, compared. -/
def eqFs (Θ : Tab) (xs ys : List D) : List (Nat × Nat) → Option Bool
  | [] => some true
  | (off, ft) :: r => match Θ ft, xs[off]?, ys[off]? with
    | some j, some x, some y => match eqV j.k x y, eqFs Θ xs ys r with
      | some p, some q => some (p && q)
      | _, _ => none
    | _, _, _ => none
/-- Parts of anything, laid into cells. -/
def fillS (place : Nat → Option (Nat × Nat)) (o : Nat → Option AO) : List (Nat × SV) → List SV → Option (List SV)
  | [], cs => some cs
  | (i, c) :: r, cs => match place i, c.cells o with
    | some (off, size), some ys => if ys.length = size ∧ off + size ≤ cs.length then fillS place o r (cs.take off ++ ys ++ cs.drop (off + size)) else none
    | _, _ => none
/-- What only looks. -/
def nQ (Θ : Tab) (op : Op) (ev : Operand → SV) (o : Nat → Option AO) : Option SV :=
  match op with
  | .load t x => match Θ t, ev x with
    | some i, .rel q j f => match o q with
      | some (.row _ _ xs) => match xs[j]? with
        | some x => (x.at f i.sz i.k.agg).map .d
        | none => none
      | _ => none
    | _, _ => none
  | .nilCheck x => match ev x with
    | .rel q j f => match o q with
      | some (.row _ _ _) => some (.rel q j f)
      | _ => none
    | _ => none
  | .build t parts => match Θ t with
    | some i => match i.k with
      | .arr n e => match Θ e, i.z with
        | some j, some l => match fillL (fun q => some (q * j.sz, j.sz)) l (parts.toList.map fun p => (p.1, ev p.2)) with
          | some ds => some (.d (.agg ds))
          | none => if j.sz = 1 ∧ l.length = n then match seqC o 0 (parts.toList.map fun p => (p.1, ev p.2)) with
              | some cs => if cs.length = n then some (.ag cs) else none
              | none => none
            else none
        | _, _ => none
      | .struct fs => match i.z with
        | some l => match fillL (placeOf Θ fs) l (parts.toList.map fun p => (p.1, (ev p.2).soft)) with
          | some ds => some (.d (.agg ds))
          | none => (fillS (placeOf Θ fs) o (parts.toList.map fun p => (p.1, (ev p.2).soft)) (l.map .d)).map .ag
        | none => none
      | _ => none
    | none => none
  | .slice t x lo hi mx => match Θ t with
    | some i => match i.k with
      | .slice e => match Θ e with
        | some j => match viewOf o j.sz (ev x) with
          | some (q, l, n, c, xs) => match vbnd n (c.cap (xs.length - l) n) (lo.map ev) (hi.map ev) (mx.map ev) with
            | some (l', h, m) => some (.view q (l + l') (h - l') (c.cut h m))
            | none => none
          | none => match ev x with
            | .d (.sl z xs) => if z = j.sz then match vbnd xs.length xs.length (lo.map ev) (hi.map ev) (mx.map ev) with
                | some (l', h, some k) => if k = h then some (.dx z ((xs.take h).drop l')) else none
                | _ => none
              else none
            | .d .nil => match vbnd 0 0 (lo.map ev) (hi.map ev) (mx.map ev) with
              | some _ => some (.d .nil)
              | none => none
            | .dx z xs => if z = j.sz then match vbnd xs.length xs.length (lo.map ev) (hi.map ev) (mx.map ev) with
                | some (l', h, _) => some (.d (.sl z ((xs.take h).drop l')))
                | _ => none
              else none
            | _ => none
        | none => none
      | _ => none
    | none => none
  | .convert src dst x => match Θ src, Θ dst with
    | some i, some j => match i.k, j.k with
      | .slice e, .str => match Θ e with
        | some je => match je.k, (match ev x with
            | .dx z xs => srcN o 1 (.dx z xs)
            | .view q l n c => srcN o 1 (.view q l n c)
            | _ => none) with
          | .int .u8, some ys => (byteL ys).map fun b => .d (.str b)
          | _, _ => none
        | none => none
      | _, _ => none
    | _, _ => none
  | .indexAddr t x ix => match Θ t, ev ix with
    | some i, .d (.int _ m) => match i.k with
      | .slice e => match Θ e with
        | some j => match ev x with
          | .view q l n c => match viewOf o j.sz (.view q l n c) with
            | some _ => if 0 ≤ m ∧ m.toNat < n then some (.rel q (l + m.toNat) 0) else none
            | none => none
          | .dx z xs => if z = j.sz ∧ 0 ≤ m then (xs[m.toNat]?).map .el else none
          | _ => none
        | none => none
      | _ => none
    | _, _ => none
  | .call c => match c.callee, c.args.toList, c.argTypes.toList with
    | .builtin .len, [x], [t] => match Θ t with
      | some i => match i.k, ev x with
        | .slice _, .view q l n k => match o q with
          | some (.row _ _ _) => some (.d (.int .i64 n))
          | _ => none
        | .slice _, .dx _ xs => some (.d (.int .i64 xs.length))
        | .map _ _, x => (mapOf o x).map fun kvs => .d (.int .i64 kvs.length)
        | _, _ => none
      | none => none
    | _, _, _ => none
  | .index t x ix => match Θ t, ev x, ev ix with
    | some i, .d (.agg xs), .d (.int _ m) => match i.k with
      | .arr n e => match Θ e with
        | some j => if 0 ≤ m ∧ m.toNat < n then ((D.agg xs).sub (m.toNat * j.sz) j.sz j.k.agg).map .d else none
        | none => none
      | _ => none
    | some i, .ag cs, .d (.int _ m) => match i.k with
      | .arr n e => match Θ e with
        | some j => if j.sz = 1 ∧ j.k.agg = false ∧ 0 ≤ m ∧ m.toNat < n then cs[m.toNat]? else none
        | none => none
      | _ => none
    | _, _, _ => none
  | .binOp b t x y _ => match b, Θ t with
    | .eql, some i => match i.k, ev x, ev y with
      | .fn, .clo _ _ _, .d (.nilk 1) => some (.d (.bool false))
      | .fn, .d (.nilk 1), .d (.nilk 1) => some (.d (.bool true))
      | .map _ _, .d (.nilk 0), .d (.nilk 0) => some (.d (.bool true))
      | .map _ _, .raw q, .d (.nilk 0) => match o q with
        | some (.raw (.map _)) => some (.d (.bool false))
        | _ => none
      | .struct fs, .d (.agg xs), .d (.agg ys) => if i.eq = true then (eqFs Θ xs ys fs).map fun b => .d (.bool (b)) else none
      | _, _, _ => none
    | .neq, some i => match i.k, ev x, ev y with
      | .fn, .clo _ _ _, .d (.nilk 1) => some (.d (.bool true))
      | .fn, .d (.nilk 1), .d (.nilk 1) => some (.d (.bool false))
      | .map _ _, .d (.nilk 0), .d (.nilk 0) => some (.d (.bool false))
      | .map _ _, .raw q, .d (.nilk 0) => match o q with
        | some (.raw (.map _)) => some (.d (.bool true))
        | _ => none
      | .struct fs, .d (.agg xs), .d (.agg ys) => if i.eq = true then (eqFs Θ xs ys fs).map fun b => .d (.bool (!b)) else none
      | _, _, _ => none
    | _, _ => none
  | .field t x f => match Θ t, ev x with
    | some i, .ag cs => match i.k with
      | .struct fs => match fs[f]? with
        | some (off, ft) => match Θ ft with
          | some j => if j.k.agg = true then (if off + j.sz ≤ cs.length then some (.ag ((cs.drop off).take j.sz)) else none) else cs[off]?
          | none => none
        | none => none
      | _ => none
    | _, _ => none
  | .lookup t m x b => match Θ t with
    | some i => match i.k with
      | .map kt e => match Θ kt, Θ e with
        | some j, some je => match mapOf o (ev m), ev x, zD je with
          | some kvs, .d k, some z => if keysOk j.k k kvs = true then
              (match kfind k kvs 0 with
              | some (_, v) => some (if b = true then .tup [.d v, .d (.bool true)] else .d v)
              | none => some (if b = true then .tup [.d z, .d (.bool false)] else .d z))
            else none
          | _, _, _ => none
        | _, _ => none
      | _ => none
    | none => none
  | _ => none

theorem nQ_congr {Θ : Tab} {op : Op} {ev ev' : Operand → SV} {o : Nat → Option AO} (h : ∀ x ∈ op.operands, ev x = ev' x) : nQ Θ op ev o = nQ Θ op ev' o := by
  have ho : ∀ (x : Option Operand), (∀ y, x = some y → ev y = ev' y) → x.map ev = x.map ev' := fun x hx => by
    cases x with
    | none => rfl
    | some y => simp [hx y rfl]
  cases op <;> simp only [nQ]
  case build t parts =>
    have : (parts.toList.map fun p => (p.1, ev p.2)) = parts.toList.map fun p => (p.1, ev' p.2) := List.map_congr_left fun p hm => by rw [h p.2 (by simp [Op.operands]; exact ⟨p.1, by simpa using hm⟩)]
    have h2 : (parts.toList.map fun p => (p.1, (ev p.2).soft)) = parts.toList.map fun p => (p.1, (ev' p.2).soft) := List.map_congr_left fun p hm => by rw [h p.2 (by simp [Op.operands]; exact ⟨p.1, by simpa using hm⟩)]
    rw [this, h2]
  case load t x => rw [h x (by simp [Op.operands])]
  case field t x f => rw [h x (by simp [Op.operands])]
  case nilCheck x => rw [h x (by simp [Op.operands])]
  case slice t x lo hi mx =>
    rw [h x (by simp [Op.operands]), ho lo (fun y e => h y (by simp [Op.operands, e])), ho hi (fun y e => h y (by simp [Op.operands, e])), ho mx (fun y e => h y (by simp [Op.operands, e]))]
  case convert a b x => rw [h x (by simp [Op.operands])]
  case indexAddr t x ix => rw [h x (by simp [Op.operands]), h ix (by simp [Op.operands])]
  case index t x ix => rw [h x (by simp [Op.operands]), h ix (by simp [Op.operands])]
  case call c =>
    obtain ⟨callee, args, ts⟩ := c
    simp only
    split
    · rename_i x t ha _
      have : ev x = ev' x := h x (by
        have : args = #[x] := list_one0 ha
        subst this
        simp [Op.operands, Call.operands])
      rw [this]
    · rfl
  case binOp b t x y u => rw [h x (by simp [Op.operands]), h y (by simp [Op.operands])]
  case lookup t m x b => rw [h m (by simp [Op.operands]), h x (by simp [Op.operands])]
where
  list_one0 {α : Type} {xs : Array α} {x : α} (h : xs.toList = [x]) : xs = #[x] := by apply Array.ext'; simpa using h

section
variable {P : Program} {Θ : Tab} {s : St} {a : Act} {w : World} {S : Nat → Prop} {γ : Nat → Value} {op : Oper}
theorem load_at {t : TypeId} {i : TI} (hT : TOk P t i) {ad : Addr} {x0 : D} {v : Value} (hr : Rd w S x0 v) (hc : ∀ (j : Nat) (u : Value), v.cells[j]? = some u → w.cell? (ad.add j) = some u) (h1 : x0.leaf = !i.k.agg) (h2 : x0.width = i.sz) :
    (Instr.loadAt t (.pointer (some ad))).run P w = .ok v w := by
  by_cases hag : i.k.agg = true
  · rw [hag] at h1
    cases hr with
    | agg xs vs h3 h4 h5 =>
      have hl2 : (loadCells ad vs.length).run P w = .ok vs.toArray w :=
        run_loadCells_list (P := P) w ad vs (fun j u hu => hc j u (by simpa [Value.cells] using hu))
      have hsz : vs.length = i.sz := by rw [h4]; exact h2
      rw [hsz] at hl2
      simp [Instr.loadAt, Instr.sureAddr, loadVar, hT.run_agg, hag, hT.run_size, hl2]
    | _ => simp [D.leaf] at h1
  · simp only [Bool.not_eq_true] at hag
    rw [hag] at h1
    have hone := hr.leaf_cells (by simpa using h1)
    have hcell : w.cell? ad = some v := by
      have := hc 0 v (by rw [hone]; rfl)
      simpa [Addr.add] using this
    simp [Instr.loadAt, Instr.sureAddr, loadVar, hT.run_agg, hag, hcell]
theorem at_rd {x y : D} {f sz : Nat} {ag : Bool} {v : Value} (h : Rd w S x v) (hs : x.at f sz ag = some y) :
    ∃ u, Rd w S y u ∧ (∀ (j : Nat) (c : Value), u.cells[j]? = some c → v.cells[f + j]? = some c) ∧ y.leaf = !ag ∧ y.width = sz := by
  unfold D.at at hs
  split at hs
  · rename_i hc
    simp only [Option.some.injEq] at hs
    subst hs
    obtain ⟨rfl, h1, h2⟩ := hc
    exact ⟨v, h, fun j c hj => by simpa using hj, h1, h2⟩
  · split at hs
    · rename_i y' hy
      split at hs
      · rename_i hc
        simp only [Option.some.injEq] at hs
        subst hs
        obtain ⟨u, k1, k2, _⟩ := sub_rd h hy
        exact ⟨u, k1, k2, hc.1, hc.2⟩
      · cases hs
    · cases hs
theorem RowC.ptr {e : TypeId} {z : Nat} {xs : List D} {vs : List Value} {u v : Value} {j f : Nat} (hR : RowC w S u e z xs vs) (h : ∃ g n c, u = .slice (some ⟨g, 0, none⟩) n c ∧ v = .pointer (some ⟨g, j * z + f, none⟩)) :
    ∃ g n c, u = .slice (some ⟨g, 0, none⟩) n c ∧ v = .pointer (some ⟨g, j * z + f, none⟩) ∧ ∀ (x : Value) (p : Nat) (c : Value), vs[j]? = some x → x.cells[f + p]? = some c → w.cell? ((⟨g, j * z + f, none⟩ : Addr).add p) = some c := by
  obtain ⟨g, n, c, rfl, rfl⟩ := h
  refine ⟨g, n, c, rfl, rfl, fun x p c h1 h2 => ?_⟩
  have := hR.cell h1 h2
  rw [Addr.add_mid]
  rw [Nat.add_assoc]; exact this
theorem q_load (hΘ : TabOk P Θ) (hf : Fr s a w S γ) {t : TypeId} {x : Operand} {i : TI} {q j f : Nat} {e : TypeId} {z : Nat} {xs : List D} {x0 y : D} (ho : op.op = .load t x) (hi : Θ t = some i) (hx : ev s.sl x = .rel q j f) (hq : s.o q = some (.row e z xs)) (hj : xs[j]? = some x0) (hy : x0.at f i.sz i.k.agg = some y) :
    Done w S γ s.o s.nk ((execOp a.eval op).run P w) (.d y) s.o s.nk := by
  have h1 := hf.ev x
  rw [hx] at h1
  have hrun : (execOp a.eval op).run P w = ((Instr.loadAt t (a.eval x)).run P w).andThen fun u w' => .ok (.value u) w' := by simp [execOp, ho]
  generalize a.eval x = ux at h1 hrun
  obtain ⟨vs, hR⟩ := (hf.sto.row _ _ _ _ hq).get
  cases h1 with
  | rel _ _ _ _ hv =>
    obtain ⟨g, n, c, k1, rfl, k2⟩ := hR.ptr (hv _ _ _ hq)
    have hlt : j < xs.length := (List.getElem?_eq_some_iff.1 hj).1
    have hvj : vs[j]? = some (vs[j]'(by rw [hR.len]; exact hlt)) := List.getElem?_eq_getElem _
    obtain ⟨u, r1, r2, r3, r4⟩ := at_rd (hR.rd j _ _ hj hvj) hy
    have := load_at (hΘ t i hi) r1 (fun p c hp => k2 _ p c hvj (r2 p c hp)) r3 r4
    exact Done.now hf.sto (u := u) (by rw [hrun, this]; rfl) (.d _ _ r1) trivial

theorem run_slice_of {t e : TypeId} {i j : TI} (hΘ : TabOk P Θ) (hi : Θ t = some i) (hk : i.k = .slice e) (hj : Θ e = some j) {A : Option Addr} {n cap l h m : Nat} {vl vh vm : Option Value} (hr : (Instr.sliceBounds true n cap vl vh vm).run P w = .ok (l, h, m) w) :
    (Instr.sliceAt t (.slice A n cap) vl vh vm).run P w = .ok (.slice (if m = l then A else A.map (·.add (l * j.sz))) (h - l) (m - l)) w := by
  simp [Instr.sliceAt, Instr.slice, run_underlying ((hΘ t i hi).slice hk), hr, (hΘ e j hj).run_size]

theorem q_slice (hΘ : TabOk P Θ) (hf : Fr s a w S γ) {t : TypeId} {x : Operand} {lo hi mx : Option Operand} {v : SV} (ho : op.op = .slice t x lo hi mx) (h : nQ Θ (.slice t x lo hi mx) (ev s.sl) s.o = some v) :
    Done w S γ s.o s.nk ((execOp a.eval op).run P w) v s.o s.nk := by
  have hrun : (execOp a.eval op).run P w = ((Instr.sliceAt t (a.eval x) (lo.map a.eval) (hi.map a.eval) (mx.map a.eval)).run P w).andThen fun u w' => .ok (.value u) w' := by simp [execOp, ho]
  have b1 := bv_of hf lo
  have b2 := bv_of hf hi
  have b3 := bv_of hf mx
  have hx := hf.ev x
  have hlx := hf.lt x
  simp only [nQ] at h
  generalize lo.map (Abs.ev s.sl) = cl at h b1
  generalize hi.map (Abs.ev s.sl) = ch at h b2
  generalize mx.map (Abs.ev s.sl) = cm at h b3
  generalize lo.map a.eval = vl at hrun b1
  generalize hi.map a.eval = vh at hrun b2
  generalize mx.map a.eval = vm at hrun b3
  generalize Abs.ev s.sl x = c at h hx hlx
  generalize a.eval x = ux at hx hrun
  split at h
  · rename_i i hi'
    split at h
    · rename_i e hk
      split at h
      · rename_i j hj
        split at h
        · rename_i q l n k xs hvo
          obtain ⟨e', ho', hvw, hle⟩ := viewOf_ok hf.sto hx hvo
          split at h
          · rename_i l' hh m hb
            simp only [Option.some.injEq] at h
            subst h
            have hqn : q < s.nk := hf.sto.o_lt _ _ ho'
            obtain ⟨vs, hR⟩ := (hf.sto.row _ _ _ _ ho').get
            have hnb : n ≤ k.cap (xs.length - l) n := by cases k <;> simp only [VC.cap] <;> omega
            rcases hvw with ⟨hu, rfl, rfl, rfl⟩ | ⟨g, m0, k0, p, hu, q2, q3, q4, q5, q6⟩
            · have hxs : xs = [] := by
                rcases hR.blk with ⟨_, h2⟩ | ⟨g, cap, cur, h2, _⟩
                · exact h2
                · rw [hu] at h2; cases h2
              subst hxs
              have hb0 : k.cap (([] : List D).length - 0) 0 ≤ 0 := by cases k <;> simp [VC.cap]
              obtain ⟨m', r1, r2, r3, r4, r5, r6, r7⟩ := run_vbnd (P := P) (cap := 0) b1 b2 b3 hnb hb0 hb
              have e1 : m' = 0 := by omega
              have e2 : hh = 0 := by omega
              have e3 : l' = 0 := by omega
              subst e1; subst e2; subst e3
              refine Done.now hf.sto (u := .slice none 0 0) (by rw [hrun, run_slice_of hΘ hi' hk hj r1]; rfl) (.view _ _ _ _ _ fun e2 z2 xs2 h2 => .inl ⟨hu, rfl, rfl, rfl⟩) hqn
            · have hcap : xs.length ≤ k0 := by
                rcases hR.blk with ⟨h2, _⟩ | ⟨g', cap, cur, h2, _, h3, _⟩
                · rw [hu] at h2; cases h2
                · rw [hu] at h2
                  simp only [Value.slice.injEq] at h2
                  omega
              have hbp : k.cap (xs.length - l) n ≤ p := by
                cases k with
                | full => have := q4 rfl; simp only [VC.cap]; omega
                | unk => exact q2
                | exact => exact q2
              obtain ⟨m', r1, r2, r3, r4, r5, r6, r7⟩ := run_vbnd (P := P) (cap := p) b1 b2 b3 hnb hbp hb
              have key : ∃ A, (ux = .slice A n p) ∧ (A = some ⟨g, l * j.sz, none⟩ ∨ p = 0 ∧ ∃ f, f ≤ l * j.sz ∧ A = some ⟨g, f, none⟩) := by
                rcases q6 with rfl | ⟨h0, f, hfl, rfl⟩
                · exact ⟨_, rfl, .inl rfl⟩
                · have : n = 0 := by omega
                  subst this; subst h0
                  exact ⟨_, rfl, .inr ⟨rfl, f, hfl, rfl⟩⟩
              obtain ⟨A, rfl, hA⟩ := key
              refine Done.now hf.sto (by rw [hrun, run_slice_of hΘ hi' hk hj r1]; rfl) (.view _ _ _ _ _ fun e2 z2 xs2 h2 => ?_) hqn
              rw [ho'] at h2
              simp only [Option.some.injEq, AO.row.injEq] at h2
              obtain ⟨_, hz2, _⟩ := h2
              subst hz2
              refine .inr ⟨g, m0, k0, m' - l', hu, by omega, by omega, fun hc => ?_, fun hc => ?_, ?_⟩
              · cases m with
                | some k1 => simp only [VC.cut] at hc; split at hc <;> cases hc
                | none =>
                  cases k <;> simp only [VC.cut] at hc <;> try (cases hc; done)
                  have := q4 rfl
                  have := r6 rfl
                  omega
              · cases m with
                | some k1 =>
                  simp only [VC.cut] at hc
                  split at hc
                  · have := r7 _ rfl
                    omega
                  · cases hc
                | none => cases k <;> simp only [VC.cut] at hc <;> cases hc
              · by_cases hml : m' = l'
                · rw [if_pos hml]
                  right
                  refine ⟨by omega, ?_⟩
                  have e1 : hh - l' = 0 := by omega
                  have e2 : m' - l' = 0 := by omega
                  rw [e1, e2]
                  have hmul : l * j.sz ≤ (l + l') * j.sz := Nat.mul_le_mul_right _ (by omega)
                  rcases hA with rfl | ⟨_, f, hfl, rfl⟩
                  · exact ⟨_, hmul, rfl⟩
                  · exact ⟨_, Nat.le_trans hfl hmul, rfl⟩
                · rw [if_neg hml]
                  left
                  rcases hA with rfl | ⟨h0, f, _, rfl⟩
                  · simp only [Option.map_some, Addr.add_mid]
                    rw [Nat.add_mul]
                  · omega
          · cases h
        · rename_i hvo
          split at h
          · rename_i z xs
            split at h
            · rename_i hz
              subst hz
              split at h
              · rename_i l' hh kk hb
                split at h
                · rename_i hkh
                  subst hkh
                  simp only [Option.some.injEq] at h
                  subst h
                  cases hx with
                  | d _ _ hr =>
                    obtain ⟨A, n, c, rfl, rfl, hlc, _⟩ := rd_cut hr (m := 0) (h := 0) (l := 0)
                    obtain ⟨m', r1, r2, r3, r4, r5, r6, r7⟩ := run_vbnd (P := P) (cap := c) b1 b2 b3 (Nat.le_refl _) hlc hb
                    have := r7 _ rfl
                    subst this
                    obtain ⟨A', n', c', he, hn', hlc', hcut⟩ := rd_cut hr (m := m') (h := m') (l := l')
                    simp only [Value.slice.injEq] at he
                    obtain ⟨rfl, rfl, rfl⟩ := he
                    refine Done.now hf.sto (by rw [hrun, run_slice_of hΘ hi' hk hj r1]; rfl) (.dx _ _ _ (hcut r2 r3 r4 r5) fun A n c h => ?_) trivial
                    simp only [Value.slice.injEq] at h
                    omega
                · cases h
              · cases h
            · cases h
          · split at h
            · rename_i r hb
              obtain ⟨l', hh, kk⟩ := r
              simp only [Option.some.injEq] at h
              subst h
              cases hx with
              | d _ _ hr => cases hr with
                | nil =>
                  obtain ⟨m', r1, r2, r3, r4, r5, r6, r7⟩ := run_vbnd (P := P) (cap := 0) b1 b2 b3 (Nat.le_refl _) (Nat.le_refl _) hb
                  have e1 : m' = 0 := by omega
                  have e2 : hh = 0 := by omega
                  have e3 : l' = 0 := by omega
                  subst e1; subst e2; subst e3
                  exact Done.now hf.sto (u := .slice none 0 0) (by rw [hrun, run_slice_of hΘ hi' hk hj r1]; rfl) (.d _ _ .nil) trivial
            · cases h
          · rename_i z xs
            split at h
            · rename_i hz
              subst hz
              split at h
              · rename_i l' hh kk hb
                simp only [Option.some.injEq] at h
                subst h
                cases hx with
                | dx _ _ _ hr hcx =>
                  obtain ⟨A, n, c, rfl, rfl, hlc, _⟩ := rd_cut hr (m := 0) (h := 0) (l := 0)
                  obtain ⟨m', r1, r2, r3, r4, r5, r6, r7⟩ := run_vbnd (P := P) (cap := c) b1 b2 b3 (Nat.le_refl _) hlc hb
                  obtain ⟨A', n', c', he, hn', hlc', hcut⟩ := rd_cut hr (m := m') (h := hh) (l := l')
                  simp only [Value.slice.injEq] at he
                  obtain ⟨rfl, rfl, rfl⟩ := he
                  exact Done.now hf.sto (by rw [hrun, run_slice_of hΘ hi' hk hj r1]; rfl) (.d _ _ (hcut r2 r3 r4 r5)) trivial
              · cases h
            · cases h
          · cases h
      · cases h
    · cases h
  · cases h

theorem q_nc (hf : Fr s a w S γ) {x : Operand} {q j f : Nat} {e : TypeId} {z : Nat} {xs : List D} (ho : op.op = .nilCheck x) (hx : ev s.sl x = .rel q j f) (hq : s.o q = some (.row e z xs)) :
    Done w S γ s.o s.nk ((execOp a.eval op).run P w) (.rel q j f) s.o s.nk := by
  have h1 := hf.ev x
  have h2 := hf.lt x
  rw [hx] at h1 h2
  generalize hu : a.eval x = u at h1
  cases h1 with
  | rel _ _ _ _ hv =>
    obtain ⟨g, n, c, k1, rfl⟩ := hv _ _ _ hq
    exact Done.now hf.sto (u := .pointer (some ⟨g, j * z + f, none⟩)) (by simp [execOp, ho, hu]) (.rel _ _ _ _ hv) h2
theorem q_index (hΘ : TabOk P Θ) (hf : Fr s a w S γ) {t e : TypeId} {x ix : Operand} {i j : TI} {k : IntKind} {m : Int} {q l n : Nat} {c : VC} {r : Nat × Nat × Nat × VC × List D} (ho : op.op = .indexAddr t x ix) (hi : Θ t = some i) (hk : i.k = .slice e) (hj : Θ e = some j) (hy : ev s.sl ix = .d (.int k m)) (hx : ev s.sl x = .view q l n c)
    (hv : viewOf s.o j.sz (.view q l n c) = some r) (h0 : 0 ≤ m) (hlt : m.toNat < n) : Done w S γ s.o s.nk ((execOp a.eval op).run P w) (.rel q (l + m.toNat) 0) s.o s.nk := by
  obtain ⟨q', l', n', c', xs⟩ := r
  have h1 := hf.ev x
  have h2 := hf.ev ix
  rw [hx] at h1; rw [hy] at h2
  have hrun : (execOp a.eval op).run P w = ((Instr.indexAt t (a.eval x) (a.eval ix)).run P w).andThen fun u w' => .ok (.value u) w' := by simp [execOp, ho]
  generalize a.eval x = ux at h1 hrun
  generalize a.eval ix = uy at h2 hrun
  obtain ⟨e', hq, hvw, hle⟩ := viewOf_ok hf.sto h1 hv
  have hq' : q' = q ∧ l' = l ∧ n' = n := by
    simp only [viewOf] at hv
    split at hv
    · split at hv
      · simp only [Option.some.injEq, Prod.mk.injEq] at hv
        exact ⟨hv.1.symm, hv.2.1.symm, hv.2.2.1.symm⟩
      · cases hv
    · cases hv
  obtain ⟨rfl, rfl, rfl⟩ := hq'
  obtain ⟨g, m0, k0, p, hu, rfl⟩ := vw_blk hvw (by omega)
  have hqn : q' < s.nk := hf.sto.o_lt _ _ hq
  have hu' := (hΘ t i hi).slice hk
  have hlt' := toNat_lt h0 hlt
  cases h2 with
  | d _ _ hr => cases hr with
    | int =>
      refine Done.now hf.sto (u := .pointer (some ⟨g, (l' + m.toNat) * j.sz + 0, none⟩)) ?_ (.rel _ _ _ _ fun e2 z2 xs2 h2 => ?_) hqn
      · rw [hrun]
        simp [Instr.indexAt, asIntOf, run_underlying hu', h0, hlt', (hΘ e j hj).run_size, Addr.add_mid, Nat.add_mul]
      · rw [hq] at h2
        cases h2
        exact ⟨g, _, _, hu, rfl⟩
theorem q_indexD (hΘ : TabOk P Θ) (hf : Fr s a w S γ) {t e : TypeId} {x ix : Operand} {i j : TI} {k : IntKind} {m : Int} {z : Nat} {xs : List D} {y : D} (ho : op.op = .indexAddr t x ix) (hi : Θ t = some i) (hk : i.k = .slice e) (hj : Θ e = some j) (hy : ev s.sl ix = .d (.int k m)) (hx : ev s.sl x = .dx z xs)
    (hz : z = j.sz) (h0 : 0 ≤ m) (hc : xs[m.toNat]? = some y) : Done w S γ s.o s.nk ((execOp a.eval op).run P w) (.el y) s.o s.nk := by
  subst hz
  have h1 := hf.ev x
  have h2 := hf.ev ix
  rw [hx] at h1; rw [hy] at h2
  have hrun : (execOp a.eval op).run P w = ((Instr.indexAt t (a.eval x) (a.eval ix)).run P w).andThen fun u w' => .ok (.value u) w' := by simp [execOp, ho]
  generalize a.eval x = ux at h1 hrun
  generalize a.eval ix = uy at h2 hrun
  have hu := (hΘ t i hi).slice hk
  cases h2 with
  | d _ _ hr2 => cases hr2 with
    | int => cases h1 with
      | dx _ _ v hr _ =>
        cases hr with
        | emp z A c hm => simp at hc
        | sl z xs ad c vs h1 h2 h3 h4 h5 h6 h7 =>
          have hlt : m.toNat < xs.length := (List.getElem?_eq_some_iff.1 hc).1
          have hlt' := toNat_lt h0 hlt
          have hv : vs[m.toNat]? = some (vs[m.toNat]'(by omega)) := List.getElem?_eq_getElem (by omega)
          refine Done.now hf.sto (u := .pointer (some (ad.add (m.toNat * j.sz)))) ?_ (.el y _ _ (by rw [add_block]; exact h3) (h5 _ _ _ hc hv) fun q u hq => ?_) trivial
          · rw [hrun]
            simp [Instr.indexAt, asIntOf, run_underlying hu, h0, hlt', (hΘ e j hj).run_size]
          · rw [Addr_add_add]
            exact h7 _ _ _ _ hv hq
theorem mapOf_ok {w : World} {S : Nat → Prop} {γ : Nat → Value} {o : Nat → Option AO} {nk : Nat} (hs : Sto w S γ o nk) {c : SV} {v : Value} {kvs : List (D × D)} (h : SR w S γ o c v) (hm : mapOf o c = some kvs) :
    (v = .map none ∧ kvs = []) ∨ ∃ q g es clk, c = .raw q ∧ o q = some (.raw (.map kvs)) ∧ γ q = .map (some g) ∧ v = .map (some g) ∧ w.heap[g]? = some (.map es clk) ∧ MapRd w S kvs es.toList clk := by
  unfold mapOf at hm
  split at hm
  · rename_i q
    split at hm
    · rename_i kv ho
      simp only [Option.some.injEq] at hm
      subst hm
      right
      cases h with
      | raw _ _ hv =>
        have := hv _ ho
        obtain ⟨g, h1, es, clk, h2, h3⟩ := (hs.raw _ _ ho).out
        have h1' : γ q = .map (some g) := h1
        exact ⟨q, g, es, clk, rfl, ho, h1', by rw [this, h1'], h2, h3⟩
    · cases hm
  · simp only [Option.some.injEq] at hm
    subst hm
    cases h with
    | d _ _ hr => cases hr with
      | nilk => exact .inl ⟨rfl, rfl⟩
  · cases hm
theorem run_len {t : TypeId} {x : Operand} {ty : Array TypeId} (ho : op.op = .call { callee := .builtin .len, args := #[x], argTypes := #[t] }) : (execOp a.eval op).run P w = ((Builtin.len_ #[t] op.type #[a.eval x]).run P w).andThen fun v w' => .ok (.value v) w' := by
  unfold execOp
  simp only [ho, resolve, invoke, builtin, Sem.run_bind, Sem.run_pure, Result.andThen_ok, List.map_toArray, List.map_cons, List.map_nil]
theorem q_len (hΘ : TabOk P Θ) (hf : Fr s a w S γ) {t : TypeId} {x : Operand} {v : SV} (ho : op.op = .call { callee := .builtin .len, args := #[x], argTypes := #[t] }) (h : nQ Θ (.call { callee := .builtin .len, args := #[x], argTypes := #[t] }) (ev s.sl) s.o = some v) :
    Done w S γ s.o s.nk ((execOp a.eval op).run P w) v s.o s.nk := by
  have hx := hf.ev x
  have hrun := run_len (P := P) (a := a) (w := w) (ty := #[]) ho
  simp only [nQ] at h
  generalize Abs.ev s.sl x = c at h hx
  generalize a.eval x = ux at hx hrun
  split at h
  · rename_i i hi
    split at h
    · rename_i e q l n k hk
      split at h
      · rename_i e' z xs hq
        simp only [Option.some.injEq] at h
        subst h
        cases hx with
        | view _ _ _ _ _ hv =>
          obtain ⟨A, c, rfl⟩ := vw_len (hv _ _ _ hq)
          refine Done.now hf.sto (u := .int .i64 n) ?_ (.d _ _ (.int _ _)) trivial
          rw [hrun]
          simp [Builtin.len_, run_underlying ((hΘ t i hi).slice hk), goInt]
      · cases h
    · rename_i e z xs hk
      simp only [Option.some.injEq] at h
      subst h
      cases hx with
      | dx _ _ _ hr _ =>
        obtain ⟨A, n, c, rfl, rfl, _⟩ := rd_cut hr (m := 0) (h := 0) (l := 0)
        refine Done.now hf.sto (u := .int .i64 xs.length) ?_ (.d _ _ (.int _ _)) trivial
        rw [hrun]
        simp [Builtin.len_, run_underlying ((hΘ t i hi).slice hk), goInt]
    · rename_i kt e hk
      obtain ⟨kvs, h1, rfl⟩ := Option.map_eq_some_iff.1 h
      refine Done.now hf.sto (u := .int .i64 kvs.length) ?_ (.d _ _ (.int _ _)) trivial
      rw [hrun]
      rcases mapOf_ok hf.sto hx h1 with ⟨rfl, rfl⟩ | ⟨q, g, es, clk, _, _, _, rfl, h5, h6⟩
      · simp [Builtin.len_, run_underlying ((hΘ t i hi).map hk), goInt]
      · have hgo : (getObj g).run P w = .ok (.map es clk) w := by simp [getObj, Sem.run, h5]
        have : es.size = kvs.length := by rw [← h6.len]; simp
        simp [Builtin.len_, run_underlying ((hΘ t i hi).map hk), goInt, hgo, this]
    · cases h
  · cases h
theorem eq_fn {t : TypeId} {A B C : _} (d : Nat) (h : P.underlying t = some (.func A B C)) {f : Fn} {x y : Array Value} : (Op.equalIn (d + 1) t (.func f x y) .nilFunc).run P w = .ok false w ∧ (Op.equalIn (d + 1) t .nilFunc .nilFunc).run P w = .ok true w := by
  constructor <;> simp [Op.equalIn, run_underlying h]
theorem eq_mp {t k e : TypeId} (d : Nat) (h : P.underlying t = some (.map k e)) {r : Nat} : (Op.equalIn (d + 1) t (.map (some r)) (.map none)).run P w = .ok false w ∧ (Op.equalIn (d + 1) t (.map none) (.map none)).run P w = .ok true w := by
  constructor <;> simp [Op.equalIn, run_underlying h]
theorem bin_eq2 {t : TypeId} {x y : Value} {r : Bool} (h : (Op.equal t x y).run P w = .ok r w) (hx : (∃ f b c, x = .func f b c) ∨ x = .nilFunc ∨ ∃ r, x = .map r) :
    (binOp .eql t x y).run P w = .ok (.bool r) w ∧ (binOp .neq t x y).run P w = .ok (.bool (!r)) w := by
  rcases hx with ⟨f, b, c, rfl⟩ | rfl | ⟨q, rfl⟩ <;> constructor <;> simp [binOp, h]
theorem eqV_ok {j : TI} {t : TypeId} (hT : TOk P t j) {x y : D} {b : Bool} (h : eqV j.k x y = some b) {u v : Value} (hu : Rd w S x u) (hv : Rd w S y v) (d : Nat) :
    j.k.agg = false ∧ (Op.equalIn (d + 1) t u v).run P w = .ok b w := by
  unfold eqV at h
  split at h
  · rename_i k a m b n hk
    split at h
    · rename_i hab
      subst hab
      simp only [Option.some.injEq] at h; subst h
      cases hu; cases hv
      refine ⟨by rw [hk]; rfl, ?_⟩
      rw [run_equalIn_int w d t a k m n (hT.int hk)]
      congr 1
    · cases h
  · rename_i a b hk
    simp only [Option.some.injEq] at h; subst h
    cases hu; cases hv
    exact ⟨by rw [hk]; rfl, run_equalIn_bool' w d t a b (hT.bool hk)⟩
  · rename_i a b hk
    simp only [Option.some.injEq] at h; subst h
    cases hu; cases hv
    refine ⟨by rw [hk]; rfl, ?_⟩
    rw [run_equalIn_string w d t _ _ (hT.str hk)]
    congr 1
    simp only [ByteArray.toList_eq]
    by_cases hab : a = b
    · subst hab; simp
    · simp [hab]
  · cases h
theorem eqFs_ok (hΘ : TabOk P Θ) {xs ys : List D} {us vs : List Value} (hx : Rd w S (.agg xs) (.agg us.toArray)) (hy : Rd w S (.agg ys) (.agg vs.toArray)) (d : Nat) : ∀ (F : List Field) (b : Bool), (F.all fun f => f.name != "_") = true →
    eqFs Θ xs ys (F.map fun f => (f.offset, f.type)) = some b → (Op.eqFields (d + 1) us.toArray vs.toArray F).run P w = .ok b w
  | [], b, _, h => by
    simp only [List.map_nil, eqFs, Option.some.injEq] at h
    subst h
    simp [Op.eqFields]
  | f :: F, b, hn, h => by
    simp only [List.all_cons, Bool.and_eq_true, bne_iff_ne, ne_eq] at hn
    simp only [List.map_cons, eqFs] at h
    split at h
    · rename_i j x y hj h1 h2
      split at h
      · rename_i p q hp hq
        simp only [Option.some.injEq] at h
        have ih := eqFs_ok hΘ hx hy d F q hn.2 hq
        have g1 : ∃ u, us[f.offset]? = some u ∧ Rd w S x u := by
          cases hx with
          | agg _ us' k1 k2 k3 =>
            have hlt : f.offset < xs.length := (List.getElem?_eq_some_iff.1 h1).1
            have hu : us[f.offset]? = some (us[f.offset]'(by omega)) := List.getElem?_eq_getElem (by omega)
            exact ⟨_, hu, k3 _ _ _ h1 hu⟩
        have g2 : ∃ u, vs[f.offset]? = some u ∧ Rd w S y u := by
          cases hy with
          | agg _ us' k1 k2 k3 =>
            have hlt : f.offset < ys.length := (List.getElem?_eq_some_iff.1 h2).1
            have hu : vs[f.offset]? = some (vs[f.offset]'(by omega)) := List.getElem?_eq_getElem (by omega)
            exact ⟨_, hu, k3 _ _ _ h2 hu⟩
        obtain ⟨u, hu, ru⟩ := g1
        obtain ⟨v, hv, rv⟩ := g2
        obtain ⟨ha, he⟩ := eqV_ok (hΘ _ _ hj) hp ru rv d
        have hpart : ∀ (cs : List Value) (u : Value), cs[f.offset]? = some u → (part f.type cs.toArray f.offset).run P w = .ok u w := fun cs u hc => by
          simp [part, (hΘ _ _ hj).run_agg, ha, hc]
        simp only [Op.eqFields, Sem.run_ite, ne_eq, hn.1, not_false_eq_true, if_true, Sem.run_bind, hpart us u hu, hpart vs v hv, Result.andThen_ok, he]
        cases p with
        | true =>
          simp only [Bool.not_true, Bool.false_eq_true, if_false, ih]
          rw [← h, Bool.true_and]
        | false =>
          rw [← h, Bool.false_and]
          simp
      · cases h
    · cases h
theorem eqS_ok (hΘ : TabOk P Θ) {t : TypeId} {i : TI} {fs : List (Nat × Nat)} (hi : Θ t = some i) (hk : i.k = .struct fs) (he : i.eq = true) {xs ys : List D} {u v : Value} (hx : Rd w S (.agg xs) u) (hy : Rd w S (.agg ys) v) {q : Bool} (h : eqFs Θ xs ys fs = some q) (b : BinOp) (x y : Operand) :
    (eqGuard b t x y u v).run P w = .ok () w ∧ (binOp .eql t u v).run P w = .ok (.bool q) w ∧ (binOp .neq t u v).run P w = .ok (.bool (!q)) w := by
  have hB := (hΘ t i hi).q he
  obtain ⟨F, h1, h2, _⟩ := (hΘ t i hi).struct hk
  unfold eqB at hB
  rw [h1] at hB
  simp only [Bool.and_eq_true, Bool.not_eq_true'] at hB
  obtain ⟨b1, b2, b3⟩ := hB
  have hu : ∃ us : List Value, u = .agg us.toArray := by cases hx with | agg _ us => exact ⟨us, rfl⟩
  have hv : ∃ us : List Value, v = .agg us.toArray := by cases hy with | agg _ us => exact ⟨us, rfl⟩
  obtain ⟨us, rfl⟩ := hu
  obtain ⟨vs, rfl⟩ := hv
  have hF : P.fieldsOf t = F := by simp [Program.fieldsOf, h1]
  have ht : P.underlying t = some (.struct (P.fieldsOf t)) := by rw [hF]; exact h1
  have hr : (Op.equalIn 10000 t (.agg us.toArray) (.agg vs.toArray)).run P w = .ok q w := by
    rw [run_equalIn_struct w 9999 t _ _ ht b1, hF]
    exact eqFs_ok hΘ hx hy 9998 F.toList q b3 (by rw [← h2]; exact h)
  refine ⟨run_eqGuard_agg w b t x y _ _ b2, ?_, ?_⟩
  · rw [run_eql_struct, hr]; rfl
  · rw [run_neq_struct, hr]; rfl
theorem q_bin (hΘ : TabOk P Θ) (hf : Fr s a w S γ) {b : BinOp} {t u : TypeId} {x y : Operand} {v : SV} (ho : op.op = .binOp b t x y u) (h : nQ Θ (.binOp b t x y u) (ev s.sl) s.o = some v) :
    Done w S γ s.o s.nk ((execOp a.eval op).run P w) v s.o s.nk := by
  have hx := hf.ev x
  have hy := hf.ev y
  have hrun : (execOp a.eval op).run P w = ((eqGuard b t x y (a.eval x) (a.eval y)).run P w).andThen fun _ w' => ((binOp b t (a.eval x) (a.eval y)).run P w').andThen fun u w' => .ok (.value u) w' := by simp [execOp, ho]
  have fin : ∀ (r : Bool), ((∃ f q c, a.eval x = .func f q c) ∨ a.eval x = .nilFunc ∨ ∃ r, a.eval x = .map r) → (Op.equal t (a.eval x) (a.eval y)).run P w = .ok r w → (b = .eql → v = .d (.bool r)) → (b = .neq → v = .d (.bool (!r))) → (b = .eql ∨ b = .neq) → Done w S γ s.o s.nk ((execOp a.eval op).run P w) v s.o s.nk := by
    intro r hxx hr h1 h2 hb
    obtain ⟨k1, k2⟩ := bin_eq2 hr hxx
    have hg : (eqGuard b t x y (a.eval x) (a.eval y)).run P w = .ok () w := run_eqGuard_no (fun cs e => by rcases hxx with ⟨_, _, _, h⟩ | h | ⟨_, h⟩ <;> rw [h] at e <;> cases e) (fun e => by rcases hxx with ⟨_, _, _, h⟩ | h | ⟨_, h⟩ <;> rw [h] at e <;> cases e)
    rcases hb with rfl | rfl
    · rw [h1 rfl]
      refine Done.now hf.sto (u := .bool r) ?_ (.d _ _ (.bool _)) trivial
      rw [hrun]; simp [hg, k1]
    · rw [h2 rfl]
      refine Done.now hf.sto (u := .bool (!r)) ?_ (.d _ _ (.bool _)) trivial
      rw [hrun]; simp [hg, k2]
  have sd : ∀ {d : D} {u : Value}, SR w S γ s.o (.d d) u → Rd w S d u := fun hu => by cases hu with | d _ _ hr => exact hr
  simp only [nQ] at h
  have hn1 : ∀ {c : SV} {u : Value}, c = .d (.nilk 1) → SR w S γ s.o c u → u = .nilFunc := fun hc hu => by
    subst hc
    cases hu with
    | d _ _ hr => cases hr; rfl
  have hn0 : ∀ {c : SV} {u : Value}, c = .d (.nilk 0) → SR w S γ s.o c u → u = .map none := fun hc hu => by
    subst hc
    cases hu with
    | d _ _ hr => cases hr; rfl
  have hcl : ∀ {c : SV} {u : Value} {f fs cs}, c = .clo f fs cs → SR w S γ s.o c u → ∃ f b c, u = .func f b c := fun hc hu => by
    subst hc
    cases hu with
    | clo => exact ⟨_, _, _, rfl⟩
  have hmp : ∀ {c : SV} {u : Value} {q : Nat} {kvs}, c = .raw q → s.o q = some (.raw (.map kvs)) → SR w S γ s.o c u → ∃ g, u = .map (some g) := fun hc hq hu => by
    subst hc
    cases hu with
    | raw _ _ hv =>
      obtain ⟨g, h2, _⟩ := (hf.sto.raw _ _ hq).out
      exact ⟨g, (hv _ hq).trans h2⟩
  split at h
  · rename_i i hi
    split at h
    · rename_i hk h1 h2
      simp only [Option.some.injEq] at h; subst h
      obtain ⟨A, B, C, hu⟩ := (hΘ t i hi).fn hk
      obtain ⟨f, b, c, e1⟩ := hcl h1 hx
      have e2 := hn1 h2 hy
      exact fin false (.inl ⟨f, b, c, e1⟩) (by rw [e1, e2]; exact (eq_fn 9999 hu).1) (fun _ => rfl) (fun h => (by cases h)) (.inl rfl)
    · rename_i hk h1 h2
      simp only [Option.some.injEq] at h; subst h
      obtain ⟨A, B, C, hu⟩ := (hΘ t i hi).fn hk
      have e1 := hn1 h1 hx
      have e2 := hn1 h2 hy
      exact fin true (.inr (.inl e1)) (by rw [e1, e2]; exact (eq_fn (f := .func 0) (x := #[]) (y := #[]) 9999 hu).2) (fun _ => rfl) (fun h => (by cases h)) (.inl rfl)
    · rename_i hk h1 h2
      simp only [Option.some.injEq] at h; subst h
      have hu := (hΘ t i hi).map hk
      have e1 := hn0 h1 hx
      have e2 := hn0 h2 hy
      exact fin true (.inr (.inr ⟨_, e1⟩)) (by rw [e1, e2]; exact (eq_mp (r := 0) 9999 hu).2) (fun _ => rfl) (fun h => (by cases h)) (.inl rfl)
    · rename_i hk h1 h2
      split at h
      · rename_i hq
        simp only [Option.some.injEq] at h; subst h
        have hu := (hΘ t i hi).map hk
        obtain ⟨g, e1⟩ := hmp h1 hq hx
        have e2 := hn0 h2 hy
        exact fin false (.inr (.inr ⟨_, e1⟩)) (by rw [e1, e2]; exact (eq_mp 9999 hu).1) (fun _ => rfl) (fun h => (by cases h)) (.inl rfl)
      · cases h
    · rename_i hk h1 h2
      split at h
      · rename_i he
        obtain ⟨q, hq, rfl⟩ := Option.map_eq_some_iff.1 h
        rw [h1] at hx
        rw [h2] at hy
        obtain ⟨k1, k2, k3⟩ := eqS_ok hΘ hi hk he (sd hx) (sd hy) hq .eql x y
        refine Done.now hf.sto (u := .bool q) ?_ (.d _ _ (.bool _)) trivial
        rw [hrun]; simp [k1, k2]
      · cases h
    · cases h
  · rename_i i hi
    split at h
    · rename_i hk h1 h2
      simp only [Option.some.injEq] at h; subst h
      obtain ⟨A, B, C, hu⟩ := (hΘ t i hi).fn hk
      obtain ⟨f, b, c, e1⟩ := hcl h1 hx
      have e2 := hn1 h2 hy
      exact fin false (.inl ⟨f, b, c, e1⟩) (by rw [e1, e2]; exact (eq_fn 9999 hu).1) (fun h => (by cases h)) (fun _ => rfl) (.inr rfl)
    · rename_i hk h1 h2
      simp only [Option.some.injEq] at h; subst h
      obtain ⟨A, B, C, hu⟩ := (hΘ t i hi).fn hk
      have e1 := hn1 h1 hx
      have e2 := hn1 h2 hy
      exact fin true (.inr (.inl e1)) (by rw [e1, e2]; exact (eq_fn (f := .func 0) (x := #[]) (y := #[]) 9999 hu).2) (fun h => (by cases h)) (fun _ => rfl) (.inr rfl)
    · rename_i hk h1 h2
      simp only [Option.some.injEq] at h; subst h
      have hu := (hΘ t i hi).map hk
      have e1 := hn0 h1 hx
      have e2 := hn0 h2 hy
      exact fin true (.inr (.inr ⟨_, e1⟩)) (by rw [e1, e2]; exact (eq_mp (r := 0) 9999 hu).2) (fun h => (by cases h)) (fun _ => rfl) (.inr rfl)
    · rename_i hk h1 h2
      split at h
      · rename_i hq
        simp only [Option.some.injEq] at h; subst h
        have hu := (hΘ t i hi).map hk
        obtain ⟨g, e1⟩ := hmp h1 hq hx
        have e2 := hn0 h2 hy
        exact fin false (.inr (.inr ⟨_, e1⟩)) (by rw [e1, e2]; exact (eq_mp 9999 hu).1) (fun h => (by cases h)) (fun _ => rfl) (.inr rfl)
      · cases h
    · rename_i hk h1 h2
      split at h
      · rename_i he
        obtain ⟨q, hq, rfl⟩ := Option.map_eq_some_iff.1 h
        rw [h1] at hx
        rw [h2] at hy
        obtain ⟨k1, k2, k3⟩ := eqS_ok hΘ hi hk he (sd hx) (sd hy) hq .neq x y
        refine Done.now hf.sto (u := .bool (!q)) ?_ (.d _ _ (.bool _)) trivial
        rw [hrun]; simp [k1, k3]
      · cases h
    · cases h
  · cases h

/-! ### maps, looked up -/
theorem same_k {kt : TypeId} {j : TI} {k k2 : D} {v v2 : Value} (hT : TOk P kt j) (h1 : keyK j.k k = true) (h2 : keyK j.k k2 = true) (r1 : Rd w S k v) (r2 : Rd w S k2 v2) : ∃ T, P.underlying kt = some T ∧ Instr.sameNow T v v2 = some (eqK k k2) ∧ (eqK k k2 = true → Instr.sameBits 10000 v2 v = true) ∧ ∀ e, (Instr.checkKey e 10000 kt v).run P w = .ok () w := by
  unfold keyK at h1 h2
  split at h1
  · rename_i s hk
    have hu := hT.str hk
    split at h2
    · rename_i s2 _
      cases r1; cases r2
      refine ⟨_, hu, ?_, fun h => ?_, fun e => check_str hu e⟩
      · simp only [Instr.sameNow, eqK]
        by_cases h : s = s2
        · subst h; simp [bs_eq]
        · simp [bs_ne h, h]
      · simp only [eqK, decide_eq_true_eq] at h
        subst h
        show ((_ : ByteArray) == _) = true
        exact bs_eq _
    · rename_i hk2; rw [hk] at hk2; cases hk2
    · cases h2
  · rename_i a b n hk
    simp only [decide_eq_true_eq] at h1
    subst h1
    have hu := hT.int hk
    split at h2
    · rename_i hk2; rw [hk] at hk2; cases hk2
    · rename_i a2 b2 n2 hk2
      rw [hk] at hk2
      cases hk2
      simp only [decide_eq_true_eq] at h2
      subst h2
      cases r1; cases r2
      refine ⟨_, hu, ?_, fun h => ?_, fun e => ?_⟩
      · simp only [Instr.sameNow, eqK, if_true]
        congr 1
      · simp only [eqK, decide_eq_true_eq] at h
        subst h
        simp [Instr.sameBits]
      · have : ∀ (m : Int) (n : Nat), (Instr.checkKey e (n + 1) kt (.int a m)).run P w = .ok () w := fun m n => by
          unfold Instr.checkKey
          simp only [Sem.run_bind, run_underlying hu, Result.andThen]
          rfl
        exact this _ 9999
    · cases h2
  · cases h1
theorem findNow_k {kt : TypeId} {j : TI} {k : D} {v : Value} {T : TypeDesc} (hT : TOk P kt j) (hu : P.underlying kt = some T) (hk : keyK j.k k = true) (hr : Rd w S k v) : ∀ (kvs : List (D × D)) (es : List MapEntry) (n : Nat), es.length = kvs.length → (kvs.all fun p => keyK j.k p.1) = true →
    (∀ (i : Nat) (kv : D × D) (e : MapEntry), kvs[i]? = some kv → es[i]? = some e → Rd w S kv.1 e.key ∧ Rd w S kv.2 e.val) →
    match kfind k kvs n with
    | some (i, d) => ∃ e q, n + q = i ∧ es[q]? = some e ∧ (∃ k', kvs[q]? = some (k', d) ∧ eqK k k' = true) ∧ Instr.findNow T v es n = some (some (i, e.val))
    | none => Instr.findNow T v es n = some none
  | [], [], n, _, _, _ => by simp [kfind, Instr.findNow]
  | [], e :: es, n, h, _, _ => by simp at h
  | kv :: kvs, [], n, h, _, _ => by simp at h
  | (a, d) :: kvs, e :: es, n, hl, ha, hrd => by
    simp only [List.all_cons, Bool.and_eq_true] at ha
    obtain ⟨T', hu', hs, _, _⟩ := same_k (w := w) (S := S) hT hk ha.1 hr (hrd 0 _ _ rfl rfl).1
    rw [hu] at hu'
    cases hu'
    have ih := findNow_k hT hu hk hr kvs es (n + 1) (by simpa using hl) ha.2 (fun i kv e' h1 h2 => hrd (i + 1) kv e' (by simpa using h1) (by simpa using h2))
    simp only [kfind]
    cases he : eqK k a with
    | true =>
      simp only
      rw [he] at hs
      exact ⟨e, 0, rfl, rfl, ⟨a, rfl, he⟩, by simp only [Instr.findNow, hs]⟩
    | false =>
      simp only
      rw [he] at hs
      split at ih
      · rename_i i d' hf
        obtain ⟨e', q, h1, h2, h3, h4⟩ := ih
        exact ⟨e', q + 1, by omega, by simpa using h2, by simpa using h3, by simp only [Instr.findNow, hs]; exact h4⟩
      · simp only [Instr.findNow, hs]; exact ih
theorem find_k {kt : TypeId} {j : TI} {k : D} {v : Value} {kvs : List (D × D)} {es : Array MapEntry} {clk : Nat} (hT : TOk P kt j) (hk : keysOk j.k k kvs = true) (hr : Rd w S k v) (hm : MapRd w S kvs es.toList clk) :
    (∀ b, (Instr.checkKey b 10000 kt v).run P w = .ok () w) ∧
    match kfind k kvs 0 with
    | some (i, d) => ∃ e, es[i]? = some e ∧ (∃ k', kvs[i]? = some (k', d) ∧ eqK k k' = true ∧ Instr.sameBits 10000 e.key v = true) ∧ Rd w S d e.val ∧ (Instr.findKey kt v es.toList).run P w = .ok (some (i, e.val)) w
    | none => (Instr.findKey kt v es.toList).run P w = .ok none w := by
  simp only [keysOk, Bool.and_eq_true] at hk
  obtain ⟨T, hu, _, _, hck⟩ := same_k (w := w) (S := S) hT hk.1 hk.1 hr hr
  refine ⟨hck, ?_⟩
  have := findNow_k hT hu hk.1 hr kvs es.toList 0 hm.len hk.2 hm.rd
  split at this
  · rename_i i d hf
    obtain ⟨e, q, h1, h2, ⟨k', h3, h3'⟩, h4⟩ := this
    have : q = i := by omega
    subst this
    have hrd := hm.rd _ _ _ h3 h2
    have hkk : keyK j.k k' = true := List.all_eq_true.1 hk.2 (k', d) (List.mem_of_getElem? h3)
    obtain ⟨_, _, _, hsb, _⟩ := same_k (w := w) (S := S) hT hk.1 hkk hr hrd.1
    refine ⟨e, by simpa using h2, ⟨k', h3, h3', hsb h3'⟩, hrd.2, ?_⟩
    simp [Instr.findKey, run_underlying hu, h4]
  · rename_i hf
    simp [Instr.findKey, run_underlying hu, this]
theorem zero_rd (hΘ : TabOk P Θ) {t : TypeId} {i : TI} {z : D} (hi : Θ t = some i) (hz : zD i = some z) : ∃ ti zv, P.info? t = some ti ∧ ti.zero = some zv ∧ Rd w S z zv := by
  unfold zD at hz
  split at hz
  · rename_i l hl
    obtain ⟨z1, z2, z3⟩ := (hΘ t i hi).z l hl
    obtain ⟨ti, h1, _⟩ := (hΘ t i hi).info
    have hzv : ti.zero = some (zvOf i.k.agg l) := by simpa [h1] using z1
    refine ⟨ti, _, h1, hzv, ?_⟩
    have hall : ∀ x ∈ l, x.zok = true := List.all_eq_true.1 z2
    split at hz
    · rename_i hag
      simp only [Option.some.injEq] at hz
      subst hz
      simp only [zvOf, hag, if_true]
      refine .agg l (l.map D.zv) ?_ (by simp) fun i x v h1 h2 => ?_
      · rw [List.all_eq_true]
        intro x hx
        have := hall x hx
        cases x <;> simp [D.zok] at this <;> rfl
      · rw [List.getElem?_map, h1] at h2
        simp only [Option.map_some, Option.some.injEq] at h2
        subst h2
        exact zok_rd (hall x (List.mem_of_getElem? h1))
    · rename_i hag
      split at hz
      · rename_i d
        simp only [Option.some.injEq] at hz
        subst hz
        simp only [Bool.not_eq_true] at hag
        simp only [zvOf, hag]
        exact zok_rd (hall d (by simp))
      · cases hz
  · cases hz
theorem q_lookup (hΘ : TabOk P Θ) (hf : Fr s a w S γ) {t : TypeId} {m x : Operand} {b : Bool} {v : SV} (ho : op.op = .lookup t m x b) (h : nQ Θ (.lookup t m x b) (ev s.sl) s.o = some v) :
    Done w S γ s.o s.nk ((execOp a.eval op).run P w) v s.o s.nk := by
  have hm := hf.ev m
  have hx := hf.ev x
  have hrun : (execOp a.eval op).run P w = ((Instr.lookup t (a.eval m) (a.eval x) b).run P w).andThen fun u w' => .ok (.value u) w' := by simp [execOp, ho]
  simp only [nQ] at h
  split at h
  · rename_i i hi
    split at h
    · rename_i kt e hk
      split at h
      · rename_i j je hj hje
        split at h
        · rename_i kvs k z hmo hxe hzd
          rw [hxe] at hx
          split at h
          · rename_i hok
            obtain ⟨ti, zv, hti, hzv, hzr⟩ := zero_rd (w := w) (S := S) hΘ hje hzd
            generalize a.eval m = um at hm hrun
            generalize a.eval x = ux at hx hrun
            cases hx with
            | d _ _ hr =>
              have key : ∃ r d, (Instr.lookup t um ux b).run P w = .ok (if b = true then .tuple #[r, .bool d] else r) w ∧ (match kfind k kvs 0 with
                  | some (_, v) => Rd w S v r ∧ d = true
                  | none => Rd w S z r ∧ d = false) := by
                rcases mapOf_ok hf.sto hm hmo with ⟨rfl, rfl⟩ | ⟨q, g, es, clk, _, _, _, rfl, h5, h6⟩
                · obtain ⟨k1, k2⟩ := find_k (P := P) (kvs := []) (es := #[]) (clk := 0) (hΘ kt j hj) hok hr ⟨rfl, by simp, by simp, by simp⟩
                  refine ⟨zv, false, ?_, hzr, rfl⟩
                  simp only [kfind] at k2
                  have k2' : (Instr.findKey kt ux []).run P w = .ok none w := k2
                  unfold Instr.lookup
                  simp [run_underlying ((hΘ t i hi).map hk), k1, k2', zeroValue, typeInfo, hti, hzv]
                · obtain ⟨k1, k2⟩ := find_k (P := P) (hΘ kt j hj) hok hr h6
                  have hgo : (getObj g).run P w = .ok (.map es clk) w := by simp [getObj, Sem.run, h5]
                  split at k2
                  · rename_i i0 d0 hfd
                    obtain ⟨e0, e1, _, e2, e3⟩ := k2
                    refine ⟨e0.val, true, ?_, ?_⟩
                    · unfold Instr.lookup
                      simp [run_underlying ((hΘ t i hi).map hk), k1, hgo, e3]
                    · exact ⟨e2, rfl⟩
                  · rename_i hfd
                    refine ⟨zv, false, ?_, ?_⟩
                    · unfold Instr.lookup
                      simp [run_underlying ((hΘ t i hi).map hk), k1, hgo, k2, zeroValue, typeInfo, hti, hzv]
                    · exact ⟨hzr, rfl⟩
              obtain ⟨r, d, hr1, hr2⟩ := key
              have tup : ∀ {y : D} {dd : Bool}, Rd w S y r → dd = d → SR w S γ s.o (if b = true then .tup [.d y, .d (.bool dd)] else .d y) (if b = true then .tuple #[r, .bool d] else r) := fun hy hd => by
                subst hd
                split
                · refine .tup _ [_, _] rfl fun i c v h1 h2 => ?_
                  match i with
                  | 0 => simp at h1 h2; subst h1; subst h2; exact .d _ _ hy
                  | 1 => simp at h1 h2; subst h1; subst h2; exact .d _ _ (.bool _)
                  | i + 2 => simp at h1
                · exact .d _ _ hy
              have tl : ∀ {y : D} {dd : Bool}, SV.lt s.nk (if b = true then .tup [.d y, .d (.bool dd)] else .d y) := by
                intro y dd; split
                · exact ⟨trivial, trivial, trivial⟩
                · trivial
              split at h
              · rename_i i0 d0 hfd
                rw [hfd] at hr2
                simp only [Option.some.injEq] at h
                subst h
                exact Done.now hf.sto (by rw [hrun, hr1]; rfl) (tup hr2.1 hr2.2.symm) tl
              · rename_i hfd
                rw [hfd] at hr2
                simp only [Option.some.injEq] at h
                subst h
                exact Done.now hf.sto (by rw [hrun, hr1]; rfl) (tup hr2.1 hr2.2.symm) tl
          · cases h
        · cases h
      · cases h
    · cases h
  · cases h

theorem q_ag (hΘ : TabOk P Θ) (hf : Fr s a w S γ) {t e : TypeId} {x ix : Operand} {i j : TI} {k : IntKind} {m : Int} {n : Nat} {cs : List SV} {v : SV} (ho : op.op = .index t x ix) (hi : Θ t = some i) (hk : i.k = .arr n e) (hj : Θ e = some j) (hy : ev s.sl ix = .d (.int k m)) (hx : ev s.sl x = .ag cs)
    (h1 : j.sz = 1) (h2 : j.k.agg = false) (h0 : 0 ≤ m) (hlt : m.toNat < n) (hc : cs[m.toNat]? = some v) : Done w S γ s.o s.nk ((execOp a.eval op).run P w) v s.o s.nk := by
  have hx1 := hf.ev x
  have hlx := hf.lt x
  have hy1 := hf.ev ix
  rw [hx] at hx1 hlx; rw [hy] at hy1
  have hrun : (execOp a.eval op).run P w = ((Instr.index t (a.eval x) (a.eval ix)).run P w).andThen fun u w' => .ok (.value u) w' := by simp [execOp, ho]
  generalize a.eval x = ux at hx1 hrun
  generalize a.eval ix = uy at hy1 hrun
  cases hx1 with
  | ag _ vs hv hr _ => cases hy1 with
    | d _ _ hr2 => cases hr2 with
      | int =>
        have hlv : m.toNat < vs.length := by rw [hv]; exact (List.getElem?_eq_some_iff.1 hc).1
        have hlt' := toNat_lt h0 hlt
        have hu := (hΘ t i hi).arr hk
        refine Done.now hf.sto (u := vs[m.toNat]) ?_ (hr _ _ _ hc (List.getElem?_eq_getElem hlv)) (lts_get hlx _ _ hc)
        rw [hrun]
        simp [Instr.index, asIntOf, run_underlying hu, h0, hlt', (hΘ e j hj).run_size, part, (hΘ e j hj).run_agg, h1, h2, hlv]
theorem q_ix (hΘ : TabOk P Θ) (hf : Fr s a w S γ) {t e : TypeId} {x ix : Operand} {i j : TI} {k : IntKind} {m : Int} {n : Nat} {xs : List D} {y : D} (ho : op.op = .index t x ix) (hi : Θ t = some i) (hk : i.k = .arr n e) (hj : Θ e = some j) (hy : ev s.sl ix = .d (.int k m)) (hx : ev s.sl x = .d (.agg xs))
    (h0 : 0 ≤ m) (hlt : m.toNat < n) (hc : (D.agg xs).sub (m.toNat * j.sz) j.sz j.k.agg = some y) : Done w S γ s.o s.nk ((execOp a.eval op).run P w) (.d y) s.o s.nk := by
  have hx1 := hf.ev x
  have hy1 := hf.ev ix
  rw [hx] at hx1; rw [hy] at hy1
  have hrun : (execOp a.eval op).run P w = ((Instr.index t (a.eval x) (a.eval ix)).run P w).andThen fun u w' => .ok (.value u) w' := by simp [execOp, ho]
  generalize a.eval x = ux at hx1 hrun
  generalize a.eval ix = uy at hy1 hrun
  cases hx1 with
  | d _ _ hr => cases hy1 with
    | d _ _ hr2 => cases hr2 with
      | int =>
        obtain ⟨u, r1, _, cs, rfl, r2⟩ := sub_rd hr hc
        have hlt' := toNat_lt h0 hlt
        have hu := (hΘ t i hi).arr hk
        refine Done.now hf.sto (u := u) ?_ (.d _ _ r1) trivial
        rw [hrun]
        by_cases hag : j.k.agg = true
        · rw [if_pos hag] at r2
          simp [Instr.index, asIntOf, run_underlying hu, h0, hlt', (hΘ e j hj).run_size, part, (hΘ e j hj).run_agg, hag, r2.1]
        · rw [if_neg hag] at r2
          simp only [Bool.not_eq_true] at hag
          simp [Instr.index, asIntOf, run_underlying hu, h0, hlt', (hΘ e j hj).run_size, part, (hΘ e j hj).run_agg, hag, r2]
theorem seqC_ok (hf : Fr s a w S γ) : ∀ (ps : List (Nat × Operand)) (k : Nat) (cs : List SV), seqC s.o k (ps.map fun p => (p.1, ev s.sl p.2)) = some cs →
    ps.map (fun p => (p.1, a.eval p.2)) = ((ps.map fun p => a.eval p.2).zipIdx k).map (fun p => (p.2, p.1)) ∧ (ps.map fun p => a.eval p.2).length = cs.length ∧ (∀ (i : Nat) (c : SV) (v : Value), cs[i]? = some c → (ps.map fun p => a.eval p.2)[i]? = some v → SR w S γ s.o c v ∧ v.cells = #[v] ∧ v.oneCell' = true) ∧ SV.lts s.nk cs
  | [], k, cs, h => by
    simp only [List.map_nil, seqC, Option.some.injEq] at h
    subst h
    exact ⟨rfl, rfl, by simp, trivial⟩
  | (i, x) :: ps, k, cs, h => by
    simp only [List.map_cons, seqC] at h
    split at h
    · rename_i hik
      obtain ⟨rfl, h1c⟩ := hik
      split at h
      · rename_i cs' hcs
        simp only [Option.some.injEq] at h
        subst h
        obtain ⟨h1, h2, h3, h4⟩ := seqC_ok hf ps (i + 1) cs' hcs
        refine ⟨by simp [h1], by simpa using h2, fun j c v q1 q2 => ?_, ⟨hf.lt x, h4⟩⟩
        cases j with
        | zero =>
          simp at q1 q2
          subst q1; subst q2
          exact ⟨hf.ev x, oneC_ok (hf.ev x) h1c, oneC_one (hf.ev x) h1c⟩
        | succ j => exact h3 j c v (by simpa using q1) (by simpa using q2)
      · cases h
    · cases h
theorem cells_ones : ∀ {vs : List Value}, (∀ v ∈ vs, v.cells = #[v]) → cellsOf vs = vs
  | [], _ => rfl
  | v :: vs, h => by
    rw [cellsOf_cons, h v (by simp), cells_ones fun u hu => h u (by simp [hu])]; rfl
theorem parts_soft (hf : Fr s a w S γ) (parts : Array (Nat × Operand)) : ∀ (k : Nat) (p : Nat × SV) (q : Nat × Value), (parts.toList.map fun p => (p.1, (ev s.sl p.2).soft))[k]? = some p → (parts.map fun p => (p.1, a.eval p.2)).toList[k]? = some q → p.1 = q.1 ∧ ∀ x, p.2 = .d x → Rd w S x q.2 := by
  intro k p q h1 h2
  rw [List.getElem?_map] at h1
  obtain ⟨⟨i, x⟩, hx, rfl⟩ := Option.map_eq_some_iff.1 h1
  rw [Array.toList_map, List.getElem?_map, hx] at h2
  simp only [Option.map_some, Option.some.injEq] at h2
  subst h2
  refine ⟨rfl, fun d hd => ?_⟩
  have := (hf.ev x).soft
  simp only at hd
  rw [hd] at this
  cases this with
  | d _ v h => exact h
/-- Cells that hold anything, one cell each. -/
def Sv (w : World) (S : Nat → Prop) (γ : Nat → Value) (o : Nat → Option AO) (nk : Nat) (cs : List SV) (arr : Array Value) : Prop :=
  arr.size = cs.length ∧ (∀ (i : Nat) (c : SV) (u : Value), cs[i]? = some c → arr[i]? = some u → SR w S γ o c u) ∧ (∀ (i : Nat) (u : Value), arr[i]? = some u → u.oneCell' = true) ∧ ∀ (i : Nat) (c : SV), cs[i]? = some c → c.lt nk
theorem fill_sv {o : Nat → Option AO} {nk : Nat} (hs : Sto w S γ o nk) {place place' : Nat → Option (Nat × Nat)} (hp : ∀ i q, place i = some q → place' i = some q) : ∀ (parts : List (Nat × SV)) (vals : List (Nat × Value)) (cs : List SV) (arr : Array Value) (cs' : List SV),
    Sv w S γ o nk cs arr → parts.length = vals.length → (∀ (k : Nat) (p : Nat × SV) (q : Nat × Value), parts[k]? = some p → vals[k]? = some q → p.1 = q.1 ∧ SR w S γ o p.2 q.2 ∧ p.2.lt nk) → fillS place o parts cs = some cs' →
    ∃ arr', Instr.fill place' arr vals = some arr' ∧ Sv w S γ o nk cs' arr'
  | [], [], cs, arr, cs', h, _, _, hf => by
    simp only [fillS, Option.some.injEq] at hf
    subst hf
    exact ⟨arr, rfl, h⟩
  | (i, c) :: r, (j, v) :: q, cs, arr, cs', h, hl, hr, hf => by
    obtain ⟨hij, hx, hlt⟩ := hr 0 _ _ rfl rfl
    simp only at hij
    subst hij
    simp only [fillS] at hf
    split at hf
    · rename_i off size ys hpl hys
      split at hf
      · rename_i hc
        obtain ⟨l1, l2, l3, l4⟩ := SV.cells_sr hs hx hlt hys
        simp only at l1 l2 l3
        obtain ⟨s1, s2, s3, s4⟩ := h
        have hlen : v.cells.toList.length = size := by rw [Array.length_toList, l1]; exact hc.1
        have hle' : off + v.cells.toList.length ≤ arr.size := by rw [hlen, s1]; exact hc.2
        have e : Sv w S γ o nk (cs.take off ++ ys ++ cs.drop (off + size)) (setM arr off v.cells.toList) := by
          refine ⟨?_, ?_, ?_, ?_⟩
          · rw [setM_size, s1]
            simp only [List.length_append, List.length_take, List.length_drop]
            omega
          · intro k d u hd hu
            rw [setM_get _ _ _ _ hle', hlen] at hu
            by_cases hj1 : k < off
            · rw [if_neg (by omega)] at hu
              rw [List.append_assoc, List.getElem?_append_left (by simp; omega), List.getElem?_take, if_pos hj1] at hd
              exact s2 k d u hd hu
            · by_cases hj2 : k < off + size
              · rw [if_pos (by omega)] at hu
                rw [List.append_assoc, List.getElem?_append_right (by simp; omega), List.getElem?_append_left (by simp; omega)] at hd
                simp only [List.length_take, Nat.min_eq_left (show off ≤ cs.length by omega)] at hd
                exact l2 (k - off) d u hd (by simpa using hu)
              · rw [if_neg (by omega)] at hu
                rw [List.getElem?_append_right (by simp; omega), List.getElem?_drop] at hd
                simp only [List.length_append, List.length_take, Nat.min_eq_left (show off ≤ cs.length by omega)] at hd
                rw [show off + size + (k - (off + ys.length)) = k by omega] at hd
                exact s2 k d u hd hu
          · intro k u hu
            rw [setM_get _ _ _ _ hle', hlen] at hu
            split at hu
            · exact l3 u (List.mem_of_getElem? hu)
            · exact s3 k u hu
          · intro k d hd
            rcases List.mem_append.1 (List.mem_of_getElem? hd) with hm | hm
            · rcases List.mem_append.1 hm with hm | hm
              · obtain ⟨q, hq⟩ := List.getElem?_of_mem (List.mem_of_mem_take hm)
                exact s4 q d hq
              · obtain ⟨q, hq⟩ := List.getElem?_of_mem hm
                exact lts_get l4 q d hq
            · obtain ⟨q, hq⟩ := List.getElem?_of_mem (List.mem_of_mem_drop hm)
              exact s4 q d hq
        obtain ⟨arr', h1, h2⟩ := fill_sv hs hp r q (cs.take off ++ ys ++ cs.drop (off + size)) (setM arr off v.cells.toList) cs' e (by simpa using hl) (fun k p q' h1 h2 => hr (k + 1) p q' (by simpa using h1) (by simpa using h2)) hf
        refine ⟨arr', ?_, h2⟩
        simp only [Instr.fill, hp _ _ hpl]
        have hvs : v.cells.size = size := by rw [l1]; exact hc.1
        have hn : ¬ ((decide (v.cells.size ≠ size) || decide (off + v.cells.size > arr.size)) = true) := by
          simp [hvs, s1]
          omega
        rw [if_neg hn]
        have := fold_setM v.cells.toList arr off 0
        simp only [Nat.add_zero] at this
        rw [← h1, ← this, ← Array.foldl_toList, Array.toList_zipIdx]
      · cases hf
    · cases hf
theorem zero_sv {ds : List D} {arr : Array Value} {o : Nat → Option AO} {nk : Nat} (h : Lv w S ds arr) : Sv w S γ o nk (ds.map .d) arr := by
  obtain ⟨h1, h2, h3⟩ := h
  refine ⟨by simpa using h1, fun i c u hc hu => ?_, fun i u hu => ?_, fun i c hc => ?_⟩
  · rw [List.getElem?_map] at hc
    obtain ⟨d, hd, rfl⟩ := Option.map_eq_some_iff.1 hc
    exact .d _ _ (h3 i d u hd hu)
  · have hlt : i < ds.length := by rw [← h1]; exact (Array.getElem?_eq_some_iff.1 hu).1
    exact (h3 i _ u (List.getElem?_eq_getElem hlt) hu).leaf_one (List.all_eq_true.1 h2 _ (List.getElem_mem hlt))
  · rw [List.getElem?_map] at hc
    obtain ⟨d, hd, rfl⟩ := Option.map_eq_some_iff.1 hc
    trivial
theorem parts_any (hf : Fr s a w S γ) (parts : Array (Nat × Operand)) : ∀ (k : Nat) (p : Nat × SV) (q : Nat × Value), (parts.toList.map fun p => (p.1, (ev s.sl p.2).soft))[k]? = some p → (parts.map fun p => (p.1, a.eval p.2)).toList[k]? = some q → p.1 = q.1 ∧ SR w S γ s.o p.2 q.2 ∧ p.2.lt s.nk := by
  intro k p q h1 h2
  rw [List.getElem?_map] at h1
  obtain ⟨⟨i, x⟩, hx, rfl⟩ := Option.map_eq_some_iff.1 h1
  rw [Array.toList_map, List.getElem?_map, hx] at h2
  simp only [Option.map_some, Option.some.injEq] at h2
  subst h2
  exact ⟨rfl, (hf.ev x).soft, SV.soft_lt (hf.lt x)⟩
theorem q_field (hΘ : TabOk P Θ) (hf : Fr s a w S γ) {t ft off f : Nat} {x : Operand} {i j : TI} {fs : List (Nat × Nat)} {cs : List SV} {v : SV} (ho : op.op = .field t x f) (hi : Θ t = some i) (hk : i.k = .struct fs) (hfd : fs[f]? = some (off, ft)) (hj : Θ ft = some j) (hx : ev s.sl x = .ag cs)
    (h : (if j.k.agg = true then (if off + j.sz ≤ cs.length then some (SV.ag ((cs.drop off).take j.sz)) else none) else cs[off]?) = some v) : Done w S γ s.o s.nk ((execOp a.eval op).run P w) v s.o s.nk := by
  have hrun : (execOp a.eval op).run P w = ((Instr.field t (a.eval x) f).run P w).andThen fun u w' => .ok (.value u) w' := by simp [execOp, ho]
  have hr := hf.ev x
  have hl := hf.lt x
  rw [hx] at hr hl
  generalize a.eval x = ux at hr hrun
  obtain ⟨F, fd, h4, h5, rfl, rfl⟩ := (hΘ t i hi).field hk hfd
  cases hr with
  | ag _ vs hv hr h1 =>
    split at h
    · rename_i hag
      split at h
      · rename_i hle
        simp only [Option.some.injEq] at h
        subst h
        have hex : vs.toArray.extract fd.offset (fd.offset + j.sz) = ((vs.drop fd.offset).take j.sz).toArray := by
          apply Array.ext'
          simp only [Array.toList_extract, List.extract_eq_take_drop]
          congr 1
          omega
        refine Done.now hf.sto (u := .agg ((vs.drop fd.offset).take j.sz).toArray) ?_ (.ag _ _ (by simp [hv]) (fun q c u hc hu => ?_) fun u hu => h1 u (List.mem_of_mem_drop (List.mem_of_mem_take hu))) (lts_of fun q c hc => ?_)
        · rw [hrun]
          simp [Instr.field, run_underlying h4, h5, asAgg, part, (hΘ _ j hj).run_agg, hag, (hΘ _ j hj).run_size, hex]
        · have hq : q < j.sz := by
            have := (List.getElem?_eq_some_iff.1 hc).1
            simp only [List.length_take] at this
            omega
          simp only [List.getElem?_take, List.getElem?_drop, if_pos hq] at hc hu
          exact hr _ _ _ hc hu
        · have hq : q < j.sz := by
            have := (List.getElem?_eq_some_iff.1 hc).1
            simp only [List.length_take] at this
            omega
          simp only [List.getElem?_take, List.getElem?_drop, if_pos hq] at hc
          exact lts_get hl _ _ hc
      · cases h
    · rename_i hag
      have hlt : fd.offset < cs.length := (List.getElem?_eq_some_iff.1 h).1
      have hu : vs[fd.offset]? = some (vs[fd.offset]'(by omega)) := List.getElem?_eq_getElem (by omega)
      refine Done.now hf.sto (u := vs[fd.offset]'(by omega)) ?_ (hr _ _ _ h hu) (lts_get hl _ _ h)
      rw [hrun]
      have hu2 : fd.offset < vs.length := by omega
      simp [Instr.field, run_underlying h4, h5, asAgg, part, (hΘ _ j hj).run_agg, hag, hu2]
theorem q_build (hΘ : TabOk P Θ) (hf : Fr s a w S γ) {t : TypeId} {parts : Array (Nat × Operand)} {v : SV} (ho : op.op = .build t parts) (h : nQ Θ (.build t parts) (ev s.sl) s.o = some v) :
    Done w S γ s.o s.nk ((execOp a.eval op).run P w) v s.o s.nk := by
  have hrun : (execOp a.eval op).run P w = ((Instr.build t (parts.map fun p => (p.1, a.eval p.2))).run P w).andThen fun u w' => .ok (.value u) w' := by simp [execOp, ho]
  simp only [nQ] at h
  split at h
  · rename_i i hi
    split at h
    · rename_i n e hk
      split at h
      · rename_i j l hj hz
        have hu := (hΘ t i hi).arr hk
        obtain ⟨x, zv, hx, hz0, hlv⟩ := zero_lv hΘ (w := w) (S := S) hi hz
        have hb : ∀ arr, Instr.fill (fun q => some (q * j.sz, j.sz)) zv.cells (parts.map fun p => (p.1, a.eval p.2)).toList = some arr → (Instr.build t (parts.map fun p => (p.1, a.eval p.2))).run P w = .ok (.agg arr) w := fun arr h => by
          have h' : Instr.fill (fun q => some (q * j.sz, j.sz)) zv.cells (parts.toList.map fun p => (p.1, a.eval p.2)) = some arr := by simpa using h
          simp [Instr.build, zeroValue, typeInfo, hx, hz0, run_underlying hu, (hΘ e j hj).run_size, h']
        split at h
        · rename_i ds hfl
          simp only [Option.some.injEq] at h
          subst h
          obtain ⟨arr, h4, h5⟩ := fill_lv (place' := fun q => some (q * j.sz, j.sz)) (fun _ _ h => h) _ _ _ _ ds hlv (by simp) (parts_rd hf parts) hfl
          refine Done.now hf.sto (u := .agg arr) (by rw [hrun, hb arr h4]; rfl) (.d _ _ ?_) trivial
          have : arr = arr.toList.toArray := by simp
          rw [this]
          exact .agg ds arr.toList h5.2.1 (by simpa using h5.1) fun i d u hd hu => h5.2.2 i d u hd (by simpa using hu)
        · split at h
          · rename_i hc
            split at h
            · rename_i cs hcs
              split at h
              · rename_i hn
                simp only [Option.some.injEq] at h
                subst h
                obtain ⟨h1, h2, h3, h4⟩ := seqC_ok hf parts.toList 0 cs hcs
                have hone : ∀ v ∈ (parts.toList.map fun p => a.eval p.2), v.cells = #[v] ∧ v.oneCell' = true := fun v hv => by
                  obtain ⟨q, hq⟩ := List.getElem?_of_mem hv
                  have hlt : q < cs.length := by rw [← h2]; exact (List.getElem?_eq_some_iff.1 hq).1
                  exact (h3 q _ v (List.getElem?_eq_getElem hlt) hq).2
                have hzs : zv.cells.size = l.length := hlv.1
                have hfill := fill_seq (z := 1) (parts.toList.map fun p => a.eval p.2) 0 zv.cells (fun q u hu => by
                  rw [(hone u (List.mem_of_getElem? hu)).1]; rfl) (by rw [h2, hn, hzs, hc.2]; omega)
                rw [← h1, cells_ones (fun v hv => (hone v hv).1), Nat.zero_mul, setM_all _ _ (by rw [h2, hn, hzs, hc.2])] at hfill
                refine Done.now hf.sto (by rw [hrun, hb _ (by rw [hc.1]; simpa using hfill)]; rfl) (.ag cs _ h2 (fun q c v q1 q2 => (h3 q c v q1 q2).1) fun u hu => (hone u hu).2) h4
              · cases h
            · cases h
          · cases h
      · cases h
    · rename_i fs hk
      split at h
      · rename_i l hz
        obtain ⟨x, zv, hx, hz0, hlv⟩ := zero_lv hΘ (w := w) (S := S) hi hz
        obtain ⟨F, h1, h2, h3⟩ := (hΘ t i hi).struct hk
        have hplaces : F.toList.mapM (fun f => (P.info? f.type).map fun i => (f.offset, i.size)) = some (F.toList.map fun f => (f.offset, P.cellsOf f.type)) := by
          clear h2
          generalize F.toList = L at h3
          induction L with
          | nil => rfl
          | cons f L ih =>
            have hf := h3 f (by simp)
            obtain ⟨y, hy⟩ := Option.isSome_iff_exists.1 hf
            rw [List.mapM_cons, ih (fun g hg => h3 g (by simp [hg]))]
            simp [hy, Program.cellsOf]
        have hpl : ∀ (j : Nat) (q : Nat × Nat), placeOf Θ fs j = some q → (F.toList.map fun f => (f.offset, P.cellsOf f.type)).toArray[j]? = some q := fun j q hq => by
          unfold placeOf at hq
          split at hq
          · rename_i off ft hfd
            obtain ⟨jt, hj, rfl⟩ := Option.map_eq_some_iff.1 hq
            rw [h2, List.getElem?_map] at hfd
            obtain ⟨fd, hfd1, hfd2⟩ := Option.map_eq_some_iff.1 hfd
            simp only [Prod.mk.injEq] at hfd2
            obtain ⟨rfl, rfl⟩ := hfd2
            simp only [List.getElem?_toArray, List.getElem?_map, hfd1, Option.map_some, (hΘ _ jt hj).cells]
          · cases hq
        split at h
        · rename_i ds hfl
          simp only [Option.some.injEq] at h
          subst h
          obtain ⟨arr, h4, h5⟩ := fill_lv (place' := fun i => (F.toList.map fun f => (f.offset, P.cellsOf f.type)).toArray[i]?) hpl _ _ _ _ ds hlv (by simp) (parts_soft hf parts) hfl
          refine Done.now hf.sto (u := .agg arr) ?_ (.d _ _ ?_) trivial
          · rw [hrun, run_build w t _ arr (by simp only [Program.built, hx, h1, hz0, hplaces]; exact h4)]
            rfl
          · have : arr = arr.toList.toArray := by simp
            rw [this]
            exact .agg ds arr.toList h5.2.1 (by simpa using h5.1) fun i d u hd hu => h5.2.2 i d u hd (by simpa using hu)
        · obtain ⟨cs, hfl, rfl⟩ := Option.map_eq_some_iff.1 h
          obtain ⟨arr, h4, g1, g2, g3, g4⟩ := fill_sv hf.sto (place' := fun i => (F.toList.map fun f => (f.offset, P.cellsOf f.type)).toArray[i]?) hpl _ _ _ _ cs (zero_sv hlv) (by simp) (parts_any hf parts) hfl
          refine Done.now hf.sto (u := .agg arr) ?_ ?_ (lts_of g4)
          · rw [hrun, run_build w t _ arr (by simp only [Program.built, hx, h1, hz0, hplaces]; exact h4)]
            rfl
          · have : arr = arr.toList.toArray := by simp
            rw [this]
            exact .ag cs arr.toList (by simpa using g1) (fun i c u hc hu => g2 i c u hc (by simpa using hu)) fun u hu => by
              obtain ⟨q, hq⟩ := List.getElem?_of_mem hu
              exact g3 q u (by simpa using hq)
      · cases h
    · cases h
  · cases h
theorem q_convert (hΘ : TabOk P Θ) (hf : Fr s a w S γ) {src dst e : TypeId} {x : Operand} {i j je : TI} {c : SV} {ys : List D} {b : List UInt8} (ho : op.op = .convert src dst x) (hi : Θ src = some i) (hj : Θ dst = some j) (hik : i.k = .slice e) (hjk : j.k = .str) (hje : Θ e = some je) (hjek : je.k = .int .u8)
    (hx0 : ev s.sl x = c) (hs : srcN s.o 1 c = some ys) (hb : byteL ys = some b) : Done w S γ s.o s.nk ((execOp a.eval op).run P w) (.d (.str b)) s.o s.nk := by
  have hx := hf.ev x
  rw [hx0] at hx
  have hrun : (execOp a.eval op).run P w = ((convert src dst (a.eval x)).run P w).andThen fun u w' => .ok (.value u) w' := by simp [execOp, ho]
  generalize a.eval x = ux at hx hrun
  obtain ⟨vs, h1, h2, h3, h4, hlm⟩ := (srcN_ok hf.sto hx hs).out
  obtain ⟨ns, rfl, rfl⟩ := byteL_rd hb h1 h2
  have hcv : ∀ A n c, (convert src dst (.slice A n c)).run P w = (Conv.bytesToString (.slice A n c)).run P w := fun A n c => run_convert_bytes_string w src dst e A n c ((hΘ src i hi).slice hik) ((hΘ e je hje).int hjek) ((hΘ dst j hj).str hjk)
  refine Done.now hf.sto (u := .string ⟨(ns.map fun n => UInt8.ofNat n.toNat).toArray⟩) ?_ (.d _ _ (.str _ (by simpa using hlm))) trivial
  rcases h4 with ⟨c, rfl, h5⟩ | ⟨ad, c, rfl, h5⟩
  · have : ns = [] := by simpa using h5
    subst this
    rw [hrun, hcv]
    simp [Conv.bytesToString]
    rfl
  · rw [hrun, hcv]
    have hld := run_loadCells_list (P := P) w ad (ns.map (Value.int .u8)) (fun j u hu => by
      rw [← cells_ints] at hu
      exact h5 j u hu)
    rw [List.length_map] at hld ⊢
    rw [run_bytesToString w ad _ c ns hld, foldl_bytes]
    simp [ByteArray.empty, ByteArray.emptyWithCapacity]
    rfl
theorem nQ_sound (hΘ : TabOk P Θ) (hf : Fr s a w S γ) {v : SV} (h : nQ Θ op.op (ev s.sl) s.o = some v) : Done w S γ s.o s.nk ((execOp a.eval op).run P w) v s.o s.nk := by
  generalize ho : op.op = o0 at h
  cases o0 with
  | load t x =>
    simp only [nQ] at h
    split at h
    · rename_i i q j f hi hx
      split at h
      · rename_i e z xs hq
        split at h
        · rename_i x0 hj
          obtain ⟨y, hy, rfl⟩ := Option.map_eq_some_iff.1 h
          exact q_load hΘ hf ho hi hx hq hj hy
        · cases h
      · cases h
    · cases h
  | nilCheck x =>
    simp only [nQ] at h
    split at h
    · rename_i q j f hx
      split at h
      · rename_i e z xs hq
        simp only [Option.some.injEq] at h
        subst h
        exact q_nc hf ho hx hq
      · cases h
    · cases h
  | slice t x lo hi mx => exact q_slice hΘ hf ho h
  | field t x f =>
    simp only [nQ] at h
    split at h
    · rename_i i cs hi hx
      split at h
      · rename_i fs hk
        split at h
        · rename_i off ft hfd
          split at h
          · rename_i j hj
            exact q_field hΘ hf ho hi hk hfd hj hx h
          · cases h
        · cases h
      · cases h
    · cases h
  | indexAddr t x ix =>
    simp only [nQ] at h
    split at h
    · rename_i i k m hi hy
      split at h
      · rename_i e hk
        split at h
        · rename_i j hj
          split at h
          · rename_i q l n c hx
            split at h
            · rename_i r hr
              split at h
              · rename_i hc
                simp only [Option.some.injEq] at h
                subst h
                exact q_index hΘ hf ho hi hk hj hy hx hr hc.1 hc.2
              · cases h
            · cases h
          · rename_i z xs hx
            split at h
            · rename_i hc
              obtain ⟨y, hy2, rfl⟩ := Option.map_eq_some_iff.1 h
              exact q_indexD hΘ hf ho hi hk hj hy hx hc.1 hc.2 hy2
            · cases h
          · cases h
        · cases h
      · cases h
    · cases h
  | call c =>
    obtain ⟨callee, args, ts⟩ := c
    have h' := h
    simp only [nQ] at h
    split at h
    · rename_i x t ha ht
      have e1 : args = #[x] := by apply Array.ext'; simpa using ha
      have e2 : ts = #[t] := by apply Array.ext'; simpa using ht
      subst e1; subst e2
      exact q_len hΘ hf ho h'
    · cases h
  | build t parts => exact q_build hΘ hf ho h
  | convert src dst x =>
    simp only [nQ] at h
    split at h
    · rename_i i j hi hj
      split at h
      · rename_i e hik hjk
        split at h
        · rename_i je hje
          split at h
          · rename_i ys hjek hs
            obtain ⟨b, hb, rfl⟩ := Option.map_eq_some_iff.1 h
            split at hs
            · rename_i hx
              exact q_convert hΘ hf ho hi hj hik hjk hje hjek hx hs hb
            · rename_i hx
              exact q_convert hΘ hf ho hi hj hik hjk hje hjek hx hs hb
            · cases hs
          · cases h
        · cases h
      · cases h
    · cases h
  | index t x ix =>
    simp only [nQ] at h
    split at h
    · rename_i i xs k m hi hx hy
      split at h
      · rename_i n e hk
        split at h
        · rename_i j hj
          split at h
          · rename_i hc
            obtain ⟨y, hy2, rfl⟩ := Option.map_eq_some_iff.1 h
            exact q_ix hΘ hf ho hi hk hj hy hx hc.1 hc.2 hy2
          · cases h
        · cases h
      · cases h
    · rename_i i cs k m hi hx hy
      split at h
      · rename_i n e hk
        split at h
        · rename_i j hj
          split at h
          · rename_i hc
            exact q_ag hΘ hf ho hi hk hj hy hx hc.1 hc.2.1 hc.2.2.1 hc.2.2.2 h
          · cases h
        · cases h
      · cases h
    · cases h
  | binOp b t x y u => exact q_bin hΘ hf ho h
  | lookup t m x b => exact q_lookup hΘ hf ho h
  | _ => simp [nQ] at h
end
end Go.Proofs.YtpkcbdhjnnnkbaaGreat.Abs

/- More operations that write: through a row's elements, onto views and clipped slices, maps. -/
set_option linter.unusedVariables false
set_option linter.unusedSimpArgs false
namespace Go.Proofs.YtpkcbdhjnnnkbaaGreat.Abs
open Go

def upds (o : Nat → Option AO) : List (Nat × Option AO) → Nat → Option AO
  | [] => o
  | (k, x) :: r => upds (upd o k x) r
def zLen (i : TI) : Bool :=
  match i.z with
  | some l => decide (l.length = i.sz)
  | none => false
theorem zLen_ok {i : TI} (h : zLen i = true) : ∃ l, i.z = some l ∧ l.length = i.sz := by
  unfold zLen at h
  split at h
  · rename_i l hl; exact ⟨l, hl, by simpa using h⟩
  · cases h
def natV : SV → Option Nat
  | .d (.int _ n) => if 0 ≤ n ∧ n ≤ 9223372036854775807 then some n.toNat else none
  | _ => none

def killL : Option Nat → List (Nat × Option AO)
  | none => []
  | some q => [(q, none)]
theorem killL_upds (o : Nat → Option AO) (q : Option Nat) (k : Nat) (x : Option AO) : upds o (killL q ++ [(k, x)]) = upd (killo o q) k x := by cases q <;> rfl
def nW0 (Θ : Tab) (op : Op) (ev : Operand → SV) (o : Nat → Option AO) (nk : Nat) : Option (SV × List (Nat × Option AO) × Nat) :=
  match op with
  | .store t x y => match Θ t, ev x with
    | some i, .rel q j f => match o q with
      | some (.row e z xs) => match xs[j]?, (match (ev y).cells o with
          | some cs => allD cs
          | none => none) with
        | some x0, some ys => if ys.length = i.sz then match x0.put f ys with
            | some x1 => some (.any, [(q, some (.row e z (xs.take j ++ [x1] ++ xs.drop (j + 1))))], nk)
            | none => none
          else none
        | _, _ => none
      | _ => none
    | _, _ => none
  | .makeMap t r => match Θ t with
    | some i => match i.k with
      | .map _ _ => match (match r with
          | none => some 0
          | some x => natV (ev x)) with
        | some _ => some (.raw nk, [(nk, some (.raw (.map [])))], nk + 1)
        | none => none
      | _ => none
    | none => none
  | .mapUpdate t m x y => match Θ t with
    | some i => match i.k with
      | .map kt _ => match Θ kt, ev m, ev x, (ev y).soft with
        | some j, .raw q, .d k, .d v => match o q with
          | some (.raw (.map kvs)) => if keysOk j.k k kvs = true then
              match kfind k kvs 0 with
              | some (i, _) => some (.any, [(q, some (.raw (.map (kvs.set i (k, v)))))], nk)
              | none => some (.any, [(q, some (.raw (.map (kvs ++ [(k, v)]))))], nk)
            else none
          | _ => none
        | _, _, _, _ => none
      | _ => none
    | none => none
  | .makeSlice t l c => match Θ t with
    | some i => match i.k with
      | .slice e => match Θ e with
        | some j => match zD j, natV (ev l), natV (ev c) with
          | some z, some l, some c => if l ≤ c ∧ c * j.sz ≤ 16777216 ∧ j.bys * c ≤ 281474976710656 ∧ 0 < j.sz ∧ z.width = j.sz then some (.row nk, [(nk, some (.row e j.sz (List.replicate l z)))], nk + 1) else none
          | _, _, _ => none
        | none => none
      | _ => none
    | none => none
  | .call c => match c.callee, c.args.toList, c.argTypes.toList with
    | .builtin .append, [x, y], [t, u] => match Θ t with
      | some i => match i.k with
        | .slice e => match Θ e with
          | some j => match zD j, (if u = t then srcN o j.sz (ev y) else none) with
            | some zz, some ys => if 0 < j.sz ∧ zLen j = true then match ev x with
              | .dx z xs => if z = j.sz then
                  match ys with
                  | [] => some (.dx z xs, [], nk)
                  | _ :: _ => if xs.length + ys.length ≤ 9223372036854775807 ∧ (xs.length + ys.length) * j.bys ≤ 140737488355328 then some (.row nk, [(nk, some (.row e j.sz (xs ++ ys)))], nk + 1) else none
                else none
              | .view q l n c => match o q, viewOf o j.sz (.view q l n c) with
                | some (.row e' z' xs), some _ => match ys with
                  | [] => some (.view q l n c, [], nk)
                  | _ :: _ => if e' = e ∧ c = .full ∧ l + n + ys.length ≤ xs.length then some (.view q l (n + ys.length) .full, [(q, some (.row e j.sz (xs.take (l + n) ++ ys ++ xs.drop (l + n + ys.length))))], nk)
                    else if e' = e ∧ c = .full ∧ l = 0 ∧ n + ys.length ≤ 9223372036854775807 ∧ (n + ys.length) * j.bys ≤ 140737488355328 then some (.row nk, [(q, none), (nk, some (.row e j.sz (xs.take n ++ ys)))], nk + 1)
                    else none
                | _, _ => none
              | c => match dstOf o e j.sz c with
                | some (q, xs) => if xs.length + ys.length ≤ 9223372036854775807 ∧ (xs.length + ys.length) * j.bys ≤ 140737488355328 then some (.row nk, killL q ++ [(nk, some (.row e j.sz (xs ++ ys)))], nk + 1) else none
                | none => none
              else none
            | _, _ => none
          | none => none
        | _ => none
      | none => none
    | .builtin .clear, [x], [t] => match Θ t with
      | some i => match i.k with
        | .slice e => match Θ e with
          | some j => match zD j, viewOf o j.sz (ev x) with
            | some zz, some (q, l, n, _, xs) => if zz.width = j.sz then match o q with
                | some (.row e' _ _) => some (.tup [], [(q, some (.row e' j.sz (xs.take l ++ List.replicate n zz ++ xs.drop (l + n))))], nk)
                | _ => none
              else none
            | _, _ => none
          | none => none
        | _ => none
      | none => none
    | .builtin .copy, [x, y], (t :: _) => match Θ t with
      | some i => match i.k with
        | .slice e => match Θ e with
          | some j => match viewOf o j.sz (ev x), srcN o j.sz (ev y) with
            | some (q, l, n, _, xs), some ys => match o q with
              | some (.row e' _ _) => match ys.take n with
                | zs => some (.d (.int .i64 zs.length), [(q, some (.row e' j.sz (xs.take l ++ zs ++ xs.drop (l + zs.length))))], nk)
              | _ => none
            | _, _ => none
          | none => none
        | _ => none
      | none => none
    | .builtin .delete, [m, x], (t :: _) => match Θ t with
      | some i => match i.k with
        | .map kt _ => match Θ kt, ev m, ev x with
          | some j, .raw q, .d k => match o q with
            | some (.raw (.map kvs)) => if keysOk j.k k kvs = true then
                match kfind k kvs 0 with
                | some (i, _) => some (.tup [], [(q, some (.raw (.map (kvs.eraseIdx i))))], nk)
                | none => some (.tup [], [], nk)
              else none
            | _ => none
          | _, _, _ => none
        | _ => none
      | none => none
    | _, _, _ => none
  | _ => none

theorem nW0_congr {Θ : Tab} {op : Op} {ev ev' : Operand → SV} {o : Nat → Option AO} {nk : Nat} (h : ∀ x ∈ op.operands, ev x = ev' x) : nW0 Θ op ev o nk = nW0 Θ op ev' o nk := by
  cases op <;> simp only [nW0]
  case store t x y => rw [h x (by simp [Op.operands]), h y (by simp [Op.operands])]
  case makeMap t r =>
    cases r with
    | none => rfl
    | some x =>
      have := h x (by simp [Op.operands])
      simp only [this]
  case mapUpdate t m x y => rw [h m (by simp [Op.operands]), h x (by simp [Op.operands]), h y (by simp [Op.operands])]
  case makeSlice t l c => rw [h l (by simp [Op.operands]), h c (by simp [Op.operands])]
  case call c =>
    obtain ⟨callee, args, ts⟩ := c
    have hm : ∀ x ∈ args.toList, ev x = ev' x := fun x hx => h x (by simp [Op.operands, Call.operands]; right; simpa using hx)
    simp only
    split
    · rename_i x y t u ha _
      rw [hm x (by rw [ha]; simp), hm y (by rw [ha]; simp)]
    · rename_i x t ha _
      rw [hm x (by rw [ha]; simp)]
    · rename_i x y t _ ha _
      rw [hm x (by rw [ha]; simp), hm y (by rw [ha]; simp)]
    · rename_i m x t _ ha _
      rw [hm m (by rw [ha]; simp), hm x (by rw [ha]; simp)]
    · rfl

/-! ### the same value, many times -/
theorem range_rep (z : Array Value) (n : Nat) : ((Array.range (n * z.size)).map fun i => z[i % z.size]!).toList = (List.replicate n z.toList).flatten := by
  have key : ∀ n, (List.range (n * z.size)).map (fun i => z[i % z.size]!) = (List.replicate n z.toList).flatten := by
    intro n
    induction n with
    | zero => simp
    | succ n ih =>
      rw [Nat.add_mul, Nat.one_mul, List.range_add, List.map_append, ih, List.replicate_succ', List.flatten_append, List.map_map]
      congr 1
      simp only [List.flatten_cons, List.flatten_nil, List.append_nil]
      apply List.ext_getElem
      · simp
      · intro i h1 h2
        simp only [List.length_map, List.length_range] at h1
        simp only [List.getElem_map, List.getElem_range, Function.comp]
        have : (n * z.size + i) % z.size = i := by rw [Nat.add_comm, Nat.add_mul_mod_self_right, Nat.mod_eq_of_lt h1]
        rw [this]
        simp [h1]
  rw [← key n]
  simp
theorem cells_rep (zv : Value) (n : Nat) : (List.replicate n zv.cells.toList).flatten = cellsOf (List.replicate n zv) := by
  induction n with
  | zero => rfl
  | succ n ih => simp only [List.replicate_succ, List.flatten_cons, cellsOf_cons, ih]
theorem zeros_list (zv : Value) (n : Nat) : (Builtin.zeroCells zv.cells n).toList = cellsOf (List.replicate n zv) := by
  rw [← cells_rep, ← range_rep]; rfl
theorem made_list (zv : Value) (n : Nat) : (madeCells zv.cells (n * zv.cells.size)).toList = cellsOf (List.replicate n zv) := by
  rw [← cells_rep, ← range_rep]; rfl

section
variable {P : Program} {Θ : Tab} {s : St} {a : Act} {w : World} {S : Nat → Prop} {γ : Nat → Value} {op : Oper}

theorem put_ok {x x1 : D} {f : Nat} {ys : List D} {v : Value} {vals : List Value} (h : Rd w S x v) (hp : x.put f ys = some x1) (hl : vals.length = ys.length) (hy : ∀ (i : Nat) (y : D) (u : Value), ys[i]? = some y → vals[i]? = some u → Rd w S y u) :
    ∃ v1, Rd w S x1 v1 ∧ v1.cells.toList = v.cells.toList.take f ++ vals ++ v.cells.toList.drop (f + vals.length) ∧ v1.cells.size = v.cells.size ∧ f + vals.length ≤ v.cells.size := by
  unfold D.put at hp
  split at hp
  · rename_i cs
    split at hp
    · rename_i hc
      simp only [Option.some.injEq] at hp
      subst hp
      cases h with
      | agg _ vs h1 h2 h3 =>
        refine ⟨.agg (vs.take f ++ vals ++ vs.drop (f + vals.length)).toArray, .agg _ _ ?_ ?_ ?_, ?_, ?_, ?_⟩
        · rw [List.all_append, List.all_append, Bool.and_eq_true, Bool.and_eq_true]
          exact ⟨⟨List.all_eq_true.2 fun x hx => List.all_eq_true.1 h1 x (List.mem_of_mem_take hx), hc.2⟩, List.all_eq_true.2 fun x hx => List.all_eq_true.1 h1 x (List.mem_of_mem_drop hx)⟩
        · simp [h2, hl]
        · intro i x u q1 q2
          by_cases hi1 : i < f
          · rw [List.append_assoc, List.getElem?_append_left (by simp; omega), List.getElem?_take, if_pos hi1] at q1 q2
            exact h3 i x u q1 q2
          · by_cases hi2 : i < f + vals.length
            · rw [List.append_assoc, List.getElem?_append_right (by simp; omega), List.getElem?_append_left (by simp; omega)] at q1 q2
              simp only [List.length_take, Nat.min_eq_left (show f ≤ cs.length by omega)] at q1
              simp only [List.length_take, Nat.min_eq_left (show f ≤ vs.length by omega)] at q2
              exact hy _ x u q1 q2
            · rw [List.getElem?_append_right (by simp; omega), List.getElem?_drop] at q1 q2
              simp only [List.length_append, List.length_take, Nat.min_eq_left (show f ≤ cs.length by omega)] at q1
              simp only [List.length_append, List.length_take, Nat.min_eq_left (show f ≤ vs.length by omega)] at q2
              rw [show f + ys.length + (i - (f + ys.length)) = i by omega] at q1
              rw [show f + vals.length + (i - (f + vals.length)) = i by omega] at q2
              exact h3 i x u q1 q2
        · simp [Value.cells]
        · simp [Value.cells, h2, hl]; omega
        · simp [Value.cells, h2, hl]; omega
    · cases hp
  · rename_i hx
    have hxl : x.leaf = true := by cases x <;> first | rfl | exact absurd rfl (hx _)
    have hcl := h.leaf_cells hxl
    split at hp
    · rename_i y
      split at hp
      · rename_i hyl
        simp only [Option.some.injEq] at hp
        subst hp
        match vals, hl with
        | [u], _ =>
          have hr := hy 0 _ _ rfl rfl
          exact ⟨u, hr, by rw [hr.leaf_cells hyl, hcl]; simp, by rw [hr.leaf_cells hyl, hcl]; rfl, by rw [hcl]; simp⟩
      · cases hp
    · cases hp

theorem append_own (hΘ : TabOk P Θ) {o : Nat → Option AO} {nk : Nat} (hs : Sto w S γ o nk) {ux uy : Value} {t e ty : TypeId} {i j : TI} {l : List D} {q : Option Nat} {xs ys : List D} (hi : Θ t = some i) (hk : i.k = .slice e) (hj : Θ e = some j) (hz : j.z = some l) (hll : l.length = j.sz) (hpos : 0 < j.sz)
    (hR : RowAt w S ux e j.sz xs) (hq1 : ∀ t, q = some t → ∃ x, o t = some x ∧ ux.ownBlock = blk (γ t)) (hq2 : q = none → ux.ownBlock = none) (hsrc : Src w S uy j.sz ys) (h63 : xs.length + ys.length ≤ 9223372036854775807) (hby : (xs.length + ys.length) * j.bys ≤ 140737488355328) :
    ∃ v' w' γ', (Builtin.append_ #[t, t] ty #[ux, uy]).run P w = .ok v' w' ∧ Sto w' S γ' (upd (killo o q) nk (some (.row e j.sz (xs ++ ys)))) (nk + 1) ∧ Tr w S γ o nk w' S γ' (upd (killo o q) nk (some (.row e j.sz (xs ++ ys)))) (nk + 1) ∧ γ' nk = v' := by
  obtain ⟨ti, zv, hti, hzv, hlv⟩ := zero_lv hΘ (w := w) (S := S) hj hz
  have hu := (hΘ t i hi).slice hk
  obtain ⟨x', hx1, hx2, hx3⟩ := (hΘ e j hj).info
  have hxx : x' = ti := by rw [hx1] at hti; exact Option.some.inj hti
  subst hxx
  obtain ⟨vs, hown, hvl, hvr, hvz⟩ := hR.out
  have fin : ∀ (v' : Value) (w' : World) (vs' : List Value), (Builtin.append_ #[t, t] ty #[ux, uy]).run P w = .ok v' w' → w'.ownsRow 0 e j.sz v' (xs.length + ys.length) (cellsOf (vs ++ vs')) → w.grownBy w' ux.ownBlock →
      (v'.ownBlock = ux.ownBlock ∨ v'.ownBlock = some w.heap.size) → vs'.length = ys.length → (∀ (i : Nat) (x : D) (u : Value), ys[i]? = some x → vs'[i]? = some u → Rd w S x u) → (∀ (i : Nat) (u : Value), vs'[i]? = some u → u.cells.size = j.sz) →
      ∃ v' w' γ', (Builtin.append_ #[t, t] ty #[ux, uy]).run P w = .ok v' w' ∧ Sto w' S γ' (upd (killo o q) nk (some (.row e j.sz (xs ++ ys)))) (nk + 1) ∧ Tr w S γ o nk w' S γ' (upd (killo o q) nk (some (.row e j.sz (xs ++ ys)))) (nk + 1) ∧ γ' nk = v' := by
    intro v' w' vs' hr ho' hg hat hl' hr' hz'
    have hSk : ∀ k, S k → w'.heap[k]? = w.heap[k]? := fun k hS => hg.block k (hs.s_lt k hS) fun e0 => by
      cases q with
      | none => rw [hq2 rfl] at e0; cases e0
      | some t0 =>
        obtain ⟨x0, h1, h2⟩ := hq1 t0 rfl
        exact (hs.away t0 x0 k h1 (by rw [← h2, e0])).1 hS
    have hblk : blk v' = v'.ownBlock := by
      rcases ho'.2 with ⟨k1, _⟩ | ⟨g, cap, cur, k1, _⟩ <;> rw [k1] <;> rfl
    obtain ⟨m1, m2⟩ := hs.put_row (w' := w') q (v := v') (e := e) (z := j.sz) (xs := xs ++ ys) ux.ownBlock hq1 hq2 hg.os hg.tape hg.output hg.size hg.block
      ⟨vs ++ vs', by rw [List.length_append]; exact ho', by simp [hvl, hl'], fun i x u h1 h2 => by
        by_cases hlt : i < xs.length
        · rw [List.getElem?_append_left hlt] at h1
          rw [List.getElem?_append_left (by omega)] at h2
          exact (hvr i x u h1 h2).mono (fun _ h => h) hSk
        · rw [List.getElem?_append_right (by omega)] at h1
          rw [List.getElem?_append_right (by omega), hvl] at h2
          exact (hr' _ x u h1 h2).mono (fun _ h => h) hSk, fun i u h2 => by
        by_cases hlt : i < vs.length
        · rw [List.getElem?_append_left hlt] at h2
          exact hvz i u h2
        · rw [List.getElem?_append_right (by omega)] at h2
          exact hz' _ u h2⟩ (fun g hg' => by
        rw [hblk] at hg'
        have hlt := (ho'.lt g hg').2
        refine ⟨hlt, ?_⟩
        rcases hat with h1 | h1
        · right; rw [← h1, hg']
        · left; rw [hg'] at h1; injection h1 with h1; omega)
    exact ⟨v', w', _, hr, m1, m2, upd_same _ _ _⟩
  have hzs : zv.cells.size = j.sz := by rw [hlv.1]; exact hll
  obtain ⟨vs', h1, h2, h3, h4, _⟩ := hsrc.out
  rcases h4 with ⟨c, rfl, rfl⟩ | ⟨ad, c, rfl, h4⟩
  · have hys : ys = [] := List.eq_nil_of_length_eq_zero (by simpa using h1.symm)
    subst hys
    exact fin ux w [] (run_append_nothing (P := P) hu hx1 hown c) (by simpa using hown) ⟨rfl, rfl, rfl, Nat.le_refl _, fun _ _ _ => rfl⟩ (.inl rfl) rfl (by simp) (by simp)
  · obtain ⟨v', w', hr, ho', hg, _, hat⟩ := run_append_own_at (P := P) w 0 t ty e x' zv j.sz j.bys hu hx1 hzv hx2 hx3 hzs hpos ux xs.length (cellsOf vs) hown ad vs'.length c (cellsOf vs')
      (cellsOf_length h3) h4 (fun v hv => by
        obtain ⟨p, hp⟩ := List.getElem?_of_mem hv
        obtain ⟨i, jj, q', k1, k2, _⟩ := cellsOf_get h3 p v hp
        have hlt : i < ys.length := by rw [← h1]; exact (List.getElem?_eq_some_iff.1 k1).1
        exact (h2 i _ q' (List.getElem?_eq_getElem hlt) k1).cells_one jj v k2)
      (by simp only [maxLen]; omega) (by rw [h1]; exact hby) (Nat.zero_le _)
    refine fin v' w' vs' hr ?_ hg hat h1 h2 h3
    rw [cellsOf_append, ← h1]
    exact ho'
theorem w_store2 (hΘ : TabOk P Θ) (hf : Fr s a w S γ) {t : TypeId} {x y : Operand} {r : SV × List (Nat × Option AO) × Nat} (ho : op.op = .store t x y) (h : nW0 Θ (.store t x y) (ev s.sl) s.o s.nk = some r) :
    Done w S γ s.o s.nk ((execOp a.eval op).run P w) r.1 (upds s.o r.2.1) r.2.2 := by
  have hrun : (execOp a.eval op).run P w = ((Instr.storeAt t (a.eval x) (a.eval y)).run P w).andThen fun _ w' => .ok .skip w' := by simp [execOp, ho]
  have hx := hf.ev x
  have hy := hf.ev y
  have hly := hf.lt y
  simp only [nW0] at h
  split at h
  · rename_i i q j f hi hxe
    rw [hxe] at hx
    split at h
    · rename_i e z xs hq
      split at h
      · rename_i x0 ys hj hys
        split at h
        · rename_i hlen
          split at h
          · rename_i x1 hput
            simp only [Option.some.injEq] at h
            subst h
            split at hys
            · rename_i cs hcs
              obtain ⟨c1, c2, c3, _⟩ := SV.cells_sr hf.sto hy hly hcs
              have hcy := allD_spec hys
              subst hcy
              obtain ⟨vs, hR⟩ := (hf.sto.row _ _ _ _ hq).get
              generalize a.eval x = ux at hx hrun
              generalize a.eval y = uy at c1 c2 c3 hrun
              have hjl : j < xs.length := (List.getElem?_eq_some_iff.1 hj).1
              have hvl := hR.len
              have hvj : vs[j]? = some (vs[j]'(by omega)) := List.getElem?_eq_getElem _
              have hus : uy.cells.toList.length = ys.length := by rw [Array.length_toList]; simpa using c1
              obtain ⟨v1, r1, r2, r3, r4⟩ := put_ok (vals := uy.cells.toList) (hR.rd _ _ _ hj hvj) hput hus (fun k y u h1 h2 => by
                have := c2 k (.d y) u (by rw [List.getElem?_map, h1]; rfl) (by simpa using h2)
                cases this with
                | d _ _ h => exact h)
              cases hx with
              | rel _ _ _ _ hv =>
                obtain ⟨g, n, c, k1, rfl⟩ := hv _ _ _ hq
                have hγ : γ q = .slice (some ⟨g, 0, none⟩) xs.length c := by
                  rcases hR.blk with ⟨h2, _⟩ | ⟨g', cap, cur, h2, _⟩
                  · rw [k1] at h2; cases h2
                  · rw [k1] at h2
                    simp only [Value.slice.injEq] at h2
                    rw [k1, h2.2.1]
                have hB : (vs.drop j).take 1 = [vs[j]'(by omega)] := by rw [List.drop_eq_getElem_cons (by omega)]; rfl
                have hcell1 : ∀ u : Value, cellsOf [u] = u.cells.toList := fun u => by simp [cellsOf]
                have hzj := hR.sz _ _ hvj
                obtain ⟨m1, m2, m3⟩ := hR.write (P := P) hf.sto hq hγ (a := j) (f := f) (us := [v1]) (ys := [x1]) (vals := uy.cells.toList) (by simp; omega) rfl (fun k x u h1 h2 => by
                    match k with
                    | 0 => simp at h1 h2; subst h1; subst h2; exact r1
                    | k + 1 => simp at h1) (fun k u h2 => by
                    match k with
                    | 0 => simp at h2; subst h2; rw [r3, hzj]
                    | k + 1 => simp at h2) (by
                    simp only [List.length_cons, List.length_nil, Nat.zero_add, hB, hcell1]; exact r2) (by simp only [List.length_cons, List.length_nil, Nat.zero_add, Nat.one_mul]; omega) c3
                refine ⟨undef, _, S, γ, .inr ⟨?_, rfl⟩, m2, m3, .any _, trivial⟩
                rw [hrun]
                have : uy.cells.size = i.sz := by rw [← hlen, ← hus]; simp
                simp [Instr.storeAt, Instr.sureAddr, storeVar, (hΘ t i hi).run_size, this, m1]
            · cases hys
          · cases h
        · cases h
      · cases h
    · cases h
  · cases h
theorem w_makeMap (hΘ : TabOk P Θ) (hf : Fr s a w S γ) {t : TypeId} {x : Option Operand} {r : SV × List (Nat × Option AO) × Nat} (ho : op.op = .makeMap t x) (h : nW0 Θ (.makeMap t x) (ev s.sl) s.o s.nk = some r) :
    Done w S γ s.o s.nk ((execOp a.eval op).run P w) r.1 (upds s.o r.2.1) r.2.2 := by
  simp only [nW0] at h
  split at h
  · rename_i i hi
    split at h
    · rename_i kt e hk
      split at h
      · rename_i n hn
        simp only [Option.some.injEq] at h
        subst h
        obtain ⟨k1, k2⟩ := hf.sto.new_raw (.map #[] 0) (.map []) ⟨#[], 0, alloc_new _ _, rfl, by simp, by simp, by simp⟩ (v := .map (some w.heap.size)) rfl
        refine ⟨.map (some w.heap.size), _, S, _, .inl ?_, k1, k2, .raw _ _ fun ob hob => (upd_same _ _ _).symm, Nat.lt_succ_self _⟩
        cases x with
        | none => simp [execOp, ho, Instr.makeMap]
        | some y =>
          simp only at hn
          have hy := hf.ev y
          unfold natV at hn
          split at hn
          · rename_i k m hm
            rw [hm] at hy
            generalize hu : a.eval y = uy at hy
            cases hy with
            | d _ _ hr => cases hr with
              | int => simp [execOp, ho, Instr.makeMap, run_underlying ((hΘ t i hi).map hk), hu, asInt, asIntOf]
          · cases hn
      · cases h
    · cases h
  · cases h
theorem map_at (hs : Sto w S γ s.o s.nk) {q : Nat} {kvs : List (D × D)} {v : Value} (hq : s.o q = some (.raw (.map kvs))) (h : SR w S γ s.o (.raw q) v) : ∃ g es clk, v = .map (some g) ∧ blk (γ q) = some g ∧ w.heap[g]? = some (.map es clk) ∧ MapRd w S kvs es.toList clk := by
  cases h with
  | raw _ _ hv =>
    obtain ⟨g, h1, es, clk, h2, h3⟩ := (hs.raw _ _ hq).out
    have h1' : γ q = .map (some g) := h1
    exact ⟨g, es, clk, by rw [hv _ hq, h1'], by rw [h1']; rfl, h2, h3⟩
/-- A map's block is written. -/
theorem map_set (hs : Sto w S γ s.o s.nk) {q g : Nat} {kvs kvs' : List (D × D)} {es es' : Array MapEntry} {clk clk' : Nat} (hq : s.o q = some (.raw (.map kvs))) (hg : blk (γ q) = some g) (hw : w.heap[g]? = some (.map es clk)) (hm : MapRd w S kvs' es'.toList clk') :
    (setObj g (.map es' clk')).run P w = .ok () { w with heap := w.heap.setIfInBounds g (.map es' clk') } ∧
    Sto { w with heap := w.heap.setIfInBounds g (.map es' clk') } S γ (upd s.o q (some (.raw (.map kvs')))) s.nk ∧ Tr w S γ s.o s.nk { w with heap := w.heap.setIfInBounds g (.map es' clk') } S γ (upd s.o q (some (.raw (.map kvs')))) s.nk := by
  have hoth : ∀ k, k ≠ g → ({ w with heap := w.heap.setIfInBounds g (.map es' clk') } : World).heap[k]? = w.heap[k]? := fun j hj => by simp [Array.getElem?_setIfInBounds_ne (Ne.symm hj)]
  have hSg : ∀ k, S k → k ≠ g := fun k hk e => (hs.away q _ g hq hg).1 (e ▸ hk)
  obtain ⟨k1, k2⟩ := hs.set_raw (w' := { w with heap := w.heap.setIfInBounds g (.map es' clk') }) (ob0 := .map kvs) (ob := .map kvs') rfl hq hg
    ⟨es', clk', by show (w.heap.setIfInBounds g _)[g]? = _; simp [(Array.getElem?_eq_some_iff.1 hw).1], hm.len, fun i kv e h1 h2 => ⟨(hm.rd i kv e h1 h2).1.mono (fun _ h => h) fun k hk => hoth k (hSg k hk), (hm.rd i kv e h1 h2).2.mono (fun _ h => h) fun k hk => hoth k (hSg k hk)⟩, hm.born, hm.apart⟩ hoth ⟨rfl, rfl, rfl, by simp⟩
  exact ⟨by simp [setObj, Sem.run, hw], k1, k2⟩
theorem w_mapUpdate (hΘ : TabOk P Θ) (hf : Fr s a w S γ) {t : TypeId} {m x y : Operand} {r : SV × List (Nat × Option AO) × Nat} (ho : op.op = .mapUpdate t m x y) (h : nW0 Θ (.mapUpdate t m x y) (ev s.sl) s.o s.nk = some r) :
    Done w S γ s.o s.nk ((execOp a.eval op).run P w) r.1 (upds s.o r.2.1) r.2.2 := by
  have hm := hf.ev m
  have hx := hf.ev x
  have hy := hf.ev y
  have hrun : (execOp a.eval op).run P w = ((Instr.mapUpdate t (a.eval m) (a.eval x) (a.eval y)).run P w).andThen fun _ w' => .ok .skip w' := by simp [execOp, ho]
  simp only [nW0] at h
  split at h
  · rename_i i hi
    split at h
    · rename_i kt e hk
      split at h
      · rename_i j q k v hj hme hxe hye
        have hy := hy.soft
        rw [hme] at hm; rw [hxe] at hx; rw [hye] at hy
        split at h
        · rename_i kvs hq
          split at h
          · rename_i hok
            generalize a.eval m = um at hm hrun
            generalize a.eval x = ux at hx hrun
            generalize a.eval y = uy at hy hrun
            obtain ⟨g, es, clk, rfl, hg, hw, hmr⟩ := map_at hf.sto hq hm
            cases hx with
            | d _ _ hxr => cases hy with
              | d _ _ hyr =>
                obtain ⟨k1, k2⟩ := find_k (P := P) (hΘ kt j hj) hok hxr hmr
                have hgo : (getObj g).run P w = .ok (.map es clk) w := by simp [getObj, Sem.run, hw]
                split at h
                · rename_i i0 d0 hfd
                  simp only [Option.some.injEq] at h
                  subst h
                  rw [hfd] at k2
                  obtain ⟨e0, e1, ⟨k', _, _, hsb⟩, e2, e3⟩ := k2
                  have hil : i0 < es.size := (Array.getElem?_eq_some_iff.1 e1).1
                  have hlist : (es.modify i0 fun e => { e with key := ux, val := uy }).toList = es.toList.modify i0 fun e => { e with key := ux, val := uy } := by simp
                  have hnew : MapRd w S (kvs.set i0 (k, v)) (es.modify i0 fun e => { e with key := ux, val := uy }).toList clk := by
                    rw [hlist]
                    refine ⟨by simp [hmr.len], fun p kv e h1 h2 => ?_, fun e he => ?_, ?_⟩
                    · rw [List.getElem?_modify] at h2
                      obtain ⟨e', he', rfl⟩ := Option.map_eq_some_iff.1 h2
                      by_cases hp : i0 = p
                      · subst hp
                        rw [List.getElem?_set_self (by rw [← hmr.len]; simpa using hil)] at h1
                        simp only [Option.some.injEq] at h1
                        subst h1
                        simp only [if_true]
                        exact ⟨hxr, hyr⟩
                      · rw [List.getElem?_set_ne hp] at h1
                        simp only [if_neg hp]
                        exact hmr.rd _ _ _ h1 he'
                    · obtain ⟨p, hp⟩ := List.getElem?_of_mem he
                      rw [List.getElem?_modify] at hp
                      obtain ⟨e', he', rfl⟩ := Option.map_eq_some_iff.1 hp
                      have := hmr.born _ (List.mem_of_getElem? he')
                      split <;> exact this
                    · have hb : (es.toList.modify i0 fun e => { e with key := ux, val := uy }).map (·.born) = es.toList.map (·.born) := by
                        apply List.ext_getElem?
                        intro p
                        rw [List.getElem?_map, List.getElem?_map, List.getElem?_modify]
                        cases es.toList[p]? with
                        | none => rfl
                        | some e' => simp only [Option.map_some]; split <;> rfl
                      have h1 : ((es.toList.modify i0 fun e => { e with key := ux, val := uy }).map (·.born)).Pairwise (· ≠ ·) := by
                        rw [hb]; exact List.pairwise_map.2 hmr.apart
                      exact List.pairwise_map.1 h1
                  obtain ⟨m1, m2, m3⟩ := map_set (P := P) hf.sto hq hg hw hnew
                  refine ⟨undef, _, S, γ, .inr ⟨?_, rfl⟩, m2, m3, .any _, trivial⟩
                  rw [hrun]
                  unfold Instr.mapUpdate
                  simp [run_underlying ((hΘ t i hi).map hk), hgo, k1, e3, e1, Instr.keyThatStays, hsb, m1]
                · rename_i hfd
                  simp only [Option.some.injEq] at h
                  subst h
                  rw [hfd] at k2
                  have hnew : MapRd w S (kvs ++ [(k, v)]) (es.push { key := ux, val := uy, born := clk }).toList (clk + 1) := by
                    rw [Array.toList_push]
                    refine ⟨by simp [← hmr.len], fun p kv e h1 h2 => ?_, fun e he => ?_, ?_⟩
                    · by_cases hp : p < kvs.length
                      · rw [List.getElem?_append_left hp] at h1
                        rw [List.getElem?_append_left (by rw [hmr.len]; exact hp)] at h2
                        exact hmr.rd _ _ _ h1 h2
                      · rw [List.getElem?_append_right (by omega)] at h1
                        rw [List.getElem?_append_right (by rw [hmr.len]; omega), hmr.len] at h2
                        match hq0 : p - kvs.length, h1, h2 with
                        | 0, h1, h2 => simp at h1 h2; subst h1; subst h2; exact ⟨hxr, hyr⟩
                        | q + 1, h1, h2 => simp at h1
                    · rcases List.mem_append.1 he with he | he
                      · have := hmr.born e he; omega
                      · simp at he; subst he; exact Nat.lt_succ_self _
                    · rw [List.pairwise_append]
                      refine ⟨hmr.apart, by simp, fun a ha b hb => ?_⟩
                      simp at hb; subst hb
                      have := hmr.born a ha
                      simp only; omega
                  obtain ⟨m1, m2, m3⟩ := map_set (P := P) hf.sto hq hg hw hnew
                  refine ⟨undef, _, S, γ, .inr ⟨?_, rfl⟩, m2, m3, .any _, trivial⟩
                  rw [hrun]
                  unfold Instr.mapUpdate
                  simp [run_underlying ((hΘ t i hi).map hk), hgo, k1, k2, m1]
          · cases h
        · cases h
      · cases h
    · cases h
  · cases h

theorem ap_zero {t ty e : TypeId} {ti : TypeInfo} (ht : P.underlying t = some (.slice e)) (hi : P.info? e = some ti) {A B : Option Addr} {n c d : Nat} (hn : n ≤ c) : (Builtin.append_ #[t, t] ty #[.slice A n c, .slice B 0 d]).run P w = .ok (.slice A n c) w := by
  have hf : (Builtin.firstCells ti.size 0 (.slice B 0 d)).run P w = .ok #[] w := by
    cases B with
    | none => simp [Builtin.firstCells]
    | some b => exact run_firstCells_some (P := P) w ti.size 0 b 0 d [] (by simp) (by simp)
  cases A <;> simp [Builtin.append_, run_underlying ht, sizeOf, typeInfo, hi, Builtin.lenOf, hn, hf, storeCells]
theorem Src.len {v : Value} {z : Nat} {ys : List D} (h : Src w S v z ys) : ∃ B d, v = .slice B ys.length d := by
  obtain ⟨vs, h1, _, _, h4, _⟩ := h.out
  rcases h4 with ⟨c, rfl, rfl⟩ | ⟨a, c, rfl, _⟩
  · exact ⟨none, c, by rw [← h1]; rfl⟩
  · exact ⟨_, _, by rw [h1]⟩
theorem Src.at {v : Value} {z : Nat} {ys : List D} (h : Src w S v z ys) (hy : 0 < ys.length) : ∃ vs a c, v = .slice (some a) vs.length c ∧ vs.length = ys.length ∧ (∀ (i : Nat) (x : D) (u : Value), ys[i]? = some x → vs[i]? = some u → Rd w S x u) ∧ (∀ (i : Nat) (u : Value), vs[i]? = some u → u.cells.size = z) ∧
    (∀ (j : Nat) (u : Value), (cellsOf vs)[j]? = some u → w.cell? (a.add j) = some u) ∧ ∀ u ∈ cellsOf vs, u.oneCell' = true := by
  obtain ⟨vs, h1, h2, h3, h4, _⟩ := h.out
  rcases h4 with ⟨c, rfl, rfl⟩ | ⟨a, c, rfl, h5⟩
  · simp at h1; omega
  · refine ⟨vs, a, c, rfl, h1, h2, h3, h5, fun u hu => ?_⟩
    obtain ⟨p, hp⟩ := List.getElem?_of_mem hu
    obtain ⟨i, jj, q', k1, k2, _⟩ := cellsOf_get h3 p u hp
    have hlt : i < ys.length := by rw [← h1]; exact (List.getElem?_eq_some_iff.1 k1).1
    exact (h2 i _ q' (List.getElem?_eq_getElem hlt) k1).cells_one jj u k2
/-- A view that begins where its row begins is a row. -/
theorem view_row (hs : Sto w S γ s.o s.nk) {q n e z : Nat} {xs : List D} {v : Value} (hq : s.o q = some (.row e z xs)) (hv : VW z 0 n .full (γ q) v) (hn : n ≤ xs.length) : RowAt w S v e z (xs.take n) ∧ v.ownBlock = blk (γ q) := by
  obtain ⟨vs, hR⟩ := (hs.row _ _ _ _ hq).get
  have hvl := hR.len
  have hsz : ∀ (i : Nat) (u : Value), (vs.take n)[i]? = some u → u.cells.size = z := fun i u h => by
    rw [List.getElem?_take] at h
    split at h
    · exact hR.sz i u h
    · cases h
  have hrd : ∀ (i : Nat) (x : D) (u : Value), (xs.take n)[i]? = some x → (vs.take n)[i]? = some u → Rd w S x u := fun i x u h1 h2 => by
    rw [List.getElem?_take] at h1 h2
    split at h1
    · rename_i hlt
      rw [if_pos hlt] at h2
      exact hR.rd i x u h1 h2
    · cases h1
  have hln : (xs.take n).length = n := by simp; omega
  have hcl := cellsOf_take hR.sz (k := n) (by omega)
  rcases hv with ⟨h1, rfl, _, rfl⟩ | ⟨g, m, k, p, h1, h2, h3, h4, _, h6⟩
  · refine ⟨⟨[], ?_, by simp, by simp, by simp⟩, by rw [h1]; rfl⟩
    simpa [cellsOf] using World.ownsRow_nil w 0 e z
  · rcases hR.blk with ⟨h7, _⟩ | ⟨g', cap, cur, h7, k2, k3, k4, k5, k6⟩
    · rw [h1] at h7; cases h7
    · rw [h1] at h7
      simp only [Value.slice.injEq, Option.some.injEq, Addr.mk.injEq, and_true] at h7
      obtain ⟨rfl, rfl, rfl⟩ := h7
      have hkp := h4 rfl
      have hv : v = .slice (some ⟨g, 0, none⟩) n k := by
        rcases h6 with rfl | ⟨rfl, f, hf0, rfl⟩
        · simp; omega
        · have : f = 0 := by simpa using hf0
          subst this
          have : n = 0 := by omega
          subst this
          have : k = 0 := by omega
          subst this
          rfl
      subst hv
      refine ⟨⟨vs.take n, ?_, by simp [hvl], hrd, hsz⟩, by rw [h1]; rfl⟩
      rw [hln]
      refine ⟨hcl, .inr ⟨g, k, cur, rfl, Nat.zero_le _, k2, by omega, k4, k5, ?_⟩⟩
      have hsplit : cellsOf vs = cellsOf (vs.take n) ++ cellsOf (vs.drop n) := by rw [← cellsOf_append, List.take_append_drop]
      have : cur.toList.take (n * z) = (cur.toList.take (xs.length * z)).take (n * z) := by
        rw [List.take_take, Nat.min_eq_left (Nat.mul_le_mul_right z hn)]
      rw [this, k6, hsplit, ← hcl]
      exact List.take_left
theorem w_append (hΘ : TabOk P Θ) (hf : Fr s a w S γ) {t u : TypeId} {x y : Operand} {r : SV × List (Nat × Option AO) × Nat} (ho : op.op = .call { callee := .builtin .append, args := #[x, y], argTypes := #[t, u] }) (h : nW0 Θ (.call { callee := .builtin .append, args := #[x, y], argTypes := #[t, u] }) (ev s.sl) s.o s.nk = some r) :
    Done w S γ s.o s.nk ((execOp a.eval op).run P w) r.1 (upds s.o r.2.1) r.2.2 := by
  have hx := hf.ev x
  have hy := hf.ev y
  have hlx := hf.lt x
  have hrun : (execOp a.eval op).run P w = ((Builtin.append_ #[t, u] op.type #[a.eval x, a.eval y]).run P w).andThen fun v w' => .ok (.value v) w' := by
    unfold execOp
    simp only [ho, resolve, invoke, builtin, Sem.run_bind, Sem.run_pure, Result.andThen_ok, List.map_toArray, List.map_cons, List.map_nil]
  simp only [nW0] at h
  split at h
  · rename_i i hi
    split at h
    · rename_i e hk
      split at h
      · rename_i j hj
        split at h
        · rename_i zz ys hzz hys
          split at hys
          · rename_i hut
            subst hut
            split at h
            · rename_i hsz
              obtain ⟨hpos, hzl⟩ := hsz
              obtain ⟨l, hz, hll⟩ := zLen_ok hzl
              obtain ⟨ti, zv, hti, hzv, hlv⟩ := zero_lv hΘ (w := w) (S := S) hj hz
              have hu := (hΘ _ i hi).slice hk
              obtain ⟨x', hx1, hx2, hx3⟩ := (hΘ e j hj).info
              have hxx : x' = ti := by rw [hx1] at hti; exact Option.some.inj hti
              subst hxx
              have hzs : zv.cells.size = j.sz := by rw [hlv.1]; exact hll
              have hsrc := srcN_ok hf.sto hy hys
              generalize a.eval x = ux at hx hrun
              generalize a.eval y = uy at hy hsrc hrun
              split at h
              · rename_i z xs hxe
                rw [hxe] at hx
                split at h
                · rename_i hzj
                  subst hzj
                  cases hx with
                  | dx _ _ _ hr hcx =>
                    obtain ⟨A, n, c, rfl, rfl, hlc, _⟩ := rd_cut hr (m := 0) (h := 0) (l := 0)
                    have hcn := hcx _ _ _ rfl
                    split at h
                    · simp only [Option.some.injEq] at h
                      subst h
                      obtain ⟨B, d, rfl⟩ := hsrc.len
                      exact Done.now hf.sto (u := .slice A xs.length c) (by rw [hrun]; have := ap_zero (P := P) (w := w) (ty := op.type) (A := A) (B := B) (d := d) hu hx1 hlc; rw [show ([] : List D).length = 0 from rfl, this]; rfl) (.dx _ _ _ hr hcx) trivial
                    · rename_i y0 yr
                      split at h
                      · rename_i hb
                        simp only [Option.some.injEq] at h
                        subst h
                        cases A with
                        | none =>
                          have hxs : xs = [] := by
                            cases hr with
                            | emp => rfl
                          subst hxs
                          have hc0 : c = 0 := by simpa using hcn
                          subst hc0
                          obtain ⟨v', w', γ', k1, k2, k3, k4⟩ := append_own (ty := op.type) (q := none) hΘ hf.sto (ux := .slice none 0 0) (xs := []) (uy := uy) hi hk hj hz hll hpos ⟨[], World.ownsRow_nil w 0 e j.sz, rfl, by simp, by simp⟩ (by simp) (fun _ => rfl) hsrc hb.1 hb.2
                          refine ⟨v', w', S, γ', .inl ?_, k2, k3, .row _ _ fun _ _ _ _ => k4.symm, Nat.lt_succ_self _⟩
                          rw [hrun]
                          have : (Value.slice none ([] : List D).length 0) = .slice none 0 0 := rfl
                          rw [this, k1]; rfl
                        | some A =>
                          obtain ⟨vs2, B, d, rfl, q1, q2, q3, q4, _⟩ := hsrc.at (by simp)
                          obtain ⟨vsx, p1, p2, p3, p4⟩ : ∃ vs : List Value, vs.length = xs.length ∧ (∀ (i : Nat) (x : D) (u : Value), xs[i]? = some x → vs[i]? = some u → Rd w S x u) ∧ (∀ (i : Nat) (u : Value), vs[i]? = some u → u.cells.size = j.sz) ∧ ∀ (p : Nat) (u : Value), (cellsOf vs)[p]? = some u → w.cell? (A.add p) = some u := by
                            have hsx : Src w S (.slice (some A) xs.length c) j.sz xs := src_of (γ := γ) (o := s.o) hf.sto (SR.d _ _ hr) (by simp [srcOf])
                            by_cases hx0 : 0 < xs.length
                            · obtain ⟨vs, A', c', e1, e2, e3, e4, e5, _⟩ := hsx.at hx0
                              simp only [Value.slice.injEq, Option.some.injEq] at e1
                              obtain ⟨rfl, _, _⟩ := e1
                              exact ⟨vs, e2, e3, e4, e5⟩
                            · have : xs = [] := List.eq_nil_of_length_eq_zero (by omega)
                              subst this
                              exact ⟨[], rfl, by simp, by simp, by simp [cellsOf]⟩
                          obtain ⟨v', w', g1, g2, g3⟩ := run_append_arg_grows (P := P) w u op.type e x' zv j.sz j.bys hu hx1 hzv hx2 hx3 hzs hpos A xs.length c (cellsOf vsx) (by rw [cellsOf_length p3, p1]) p4 B vs2.length d (cellsOf vs2) (cellsOf_length q3) q4
                            (by rw [q1]; simp only [List.length_cons]; omega) (by rw [q1]; simp only [maxLen]; exact hb.1) (by rw [q1]; exact hb.2)
                          have hSk : ∀ k, S k → w'.heap[k]? = w.heap[k]? := fun k hS => g3.block k (hf.sto.s_lt k hS) (by simp)
                          have hblk : blk v' = v'.ownBlock := by
                            rcases g2.2 with ⟨k1, _⟩ | ⟨g, cap, cur, k1, _⟩ <;> rw [k1] <;> rfl
                          obtain ⟨m1, m2⟩ := hf.sto.put_row (w' := w') none (v := v') (e := e) (z := j.sz) (xs := xs ++ y0 :: yr) none (by simp) (fun _ => rfl) g3.os g3.tape g3.output g3.size (fun k hk _ => g3.block k hk (by simp))
                            ⟨vsx ++ vs2, by
                              rw [cellsOf_append, List.length_append, ← q1]
                              refine ⟨g2.1, ?_⟩
                              rcases g2.2 with k | ⟨g, cap, cur, k1, _, k2⟩
                              · exact .inl k
                              · exact .inr ⟨g, cap, cur, k1, Nat.zero_le _, k2⟩, by simp [p1, q1], fun i x u h1 h2 => by
                              by_cases hlt : i < xs.length
                              · rw [List.getElem?_append_left hlt] at h1
                                rw [List.getElem?_append_left (by omega)] at h2
                                exact (p2 i x u h1 h2).mono (fun _ h => h) hSk
                              · rw [List.getElem?_append_right (by omega)] at h1
                                rw [List.getElem?_append_right (by omega), p1] at h2
                                exact (q2 _ x u h1 h2).mono (fun _ h => h) hSk, fun i u h2 => by
                              by_cases hlt : i < vsx.length
                              · rw [List.getElem?_append_left hlt] at h2
                                exact p3 i u h2
                              · rw [List.getElem?_append_right (by omega)] at h2
                                exact q3 _ u h2⟩ (fun g hg' => by
                              rcases g2.2 with ⟨k1, _⟩ | ⟨g0, cap, cur, k1, kb, k2⟩
                              · rw [k1] at hg'; simp [blk] at hg'
                              · rw [k1] at hg'
                                simp [blk] at hg'
                                subst hg'
                                exact ⟨(Array.getElem?_eq_some_iff.1 k2.1).1, .inl kb⟩)
                          refine ⟨v', w', S, _, .inl ?_, m1, m2, .row _ _ fun _ _ _ _ => (upd_same _ _ _).symm, Nat.lt_succ_self _⟩
                          rw [hrun, g1]; rfl
                      · cases h
                · cases h
              · rename_i q l0 n c hxe
                rw [hxe] at hx hlx
                split at h
                · rename_i e' z' xs vv hq hvo
                  obtain ⟨q', l', n', c', xs'⟩ := vv
                  obtain ⟨e2, hq2, hvw, hle⟩ := viewOf_ok hf.sto hx hvo
                  have hvv : q' = q ∧ l' = l0 ∧ n' = n ∧ c' = c ∧ xs' = xs ∧ z' = j.sz := by
                    simp only [viewOf, hq] at hvo
                    split at hvo
                    · rename_i hz0
                      simp only [Option.some.injEq, Prod.mk.injEq] at hvo
                      exact ⟨hvo.1.symm, hvo.2.1.symm, hvo.2.2.1.symm, hvo.2.2.2.1.symm, hvo.2.2.2.2.symm, hz0.1⟩
                    · cases hvo
                  obtain ⟨rfl, rfl, rfl, rfl, rfl, rfl⟩ := hvv
                  rw [hq] at hq2
                  simp only [Option.some.injEq, AO.row.injEq, true_and, and_true] at hq2
                  subst hq2
                  split at h
                  · simp only [Option.some.injEq] at h
                    subst h
                    obtain ⟨B, d, rfl⟩ := hsrc.len
                    obtain ⟨A, k, rfl, hnk⟩ : ∃ A k, ux = .slice A n' k ∧ n' ≤ k := by
                      rcases hvw with ⟨_, rfl, _, rfl⟩ | ⟨g, m, k, p, _, h2, _, _, _, rfl | ⟨h5, f, _, rfl⟩⟩
                      · exact ⟨_, _, rfl, Nat.le_refl _⟩
                      · exact ⟨_, _, rfl, h2⟩
                      · have : n' = 0 := by omega
                        subst this
                        exact ⟨_, _, rfl, Nat.le_refl _⟩
                    exact Done.now hf.sto (by have := ap_zero (P := P) (w := w) (ty := op.type) (A := A) (B := B) (d := d) hu hx1 hnk; rw [hrun, show ([] : List D).length = 0 from rfl, this]; rfl) hx hlx
                  · rename_i y0 yr
                    split at h
                    · rename_i hc
                      obtain ⟨rfl, rfl, hlen⟩ := hc
                      simp only [Option.some.injEq] at h
                      subst h
                      obtain ⟨vs2, B, d, rfl, q1, q2, q3, q4, q5⟩ := hsrc.at (by simp)
                      obtain ⟨vs, hR⟩ := (hf.sto.row _ _ _ _ hq).get
                      rcases hvw with ⟨h0, _⟩ | ⟨g, m, k, p, h1, h2, h3, h4, _, h6⟩
                      · rcases hR.blk with ⟨_, h7⟩ | ⟨g', cap, cur, h7, _⟩
                        · subst h7; simp at hlen
                        · rw [h0] at h7; cases h7
                      · rcases hR.blk with ⟨h7, _⟩ | ⟨g', cap, cur, h7, k2, k3, k4, k5, k6⟩
                        · rw [h1] at h7; cases h7
                        · have hγ := h7
                          rw [h1] at h7
                          simp only [Value.slice.injEq, Option.some.injEq, Addr.mk.injEq, and_true] at h7
                          obtain ⟨rfl, rfl, rfl⟩ := h7
                          have hkp := h4 rfl
                          have hux : ux = .slice (some ⟨g, l' * j.sz, none⟩) n' p := by
                            rcases h6 with h | ⟨h, _⟩
                            · exact h
                            · simp only [List.length_cons] at hlen; omega
                          subst hux
                          have hmul : ∀ m, m ≤ k → m * j.sz ≤ k * j.sz := fun m hm => Nat.mul_le_mul_right _ hm
                          have hml := hmul (l' + n' + (y0 :: yr).length) (by omega)
                          have e1 : (l' + n' + (y0 :: yr).length) * j.sz = l' * j.sz + n' * j.sz + (y0 :: yr).length * j.sz := by rw [Nat.add_mul, Nat.add_mul]
                          have hcl : (cellsOf vs2).length = (y0 :: yr).length * j.sz := by rw [cellsOf_length q3, q1]
                          have hap := run_append_room_cells (P := P) w u op.type _ x' hu hx1 g (l' * j.sz) n' p B vs2.length d (cellsOf vs2) (by rw [hx2]; exact cellsOf_length q3) q4 q5 (by rw [q1]; omega)
                            (fun jj hj => by
                              rw [hx2, cell_at k2, Array.getElem?_eq_getElem (show l' * j.sz + n' * j.sz + jj < cur.size by omega)]; rfl)
                            (fun jj hj => by simp [World.frozen?, k2])
                          have hvl := hR.len
                          obtain ⟨_, m2, m3⟩ := hR.write (P := P) hf.sto hq hγ (a := l' + n') (f := 0) (us := vs2) (ys := y0 :: yr) (vals := cellsOf vs2) (by rw [q1]; exact hlen) q1 q2 q3 (by
                            have hB : (cellsOf ((vs.drop (l' + n')).take vs2.length)).length = vs2.length * j.sz := by
                              rw [cellsOf_length (z := j.sz) (fun i u hu => by
                                rw [List.getElem?_take] at hu
                                split at hu
                                · rw [List.getElem?_drop] at hu; exact hR.sz _ u hu
                                · cases hu)]
                              congr 1
                              simp; omega
                            rw [List.take_zero, List.nil_append, List.drop_eq_nil_of_le (by rw [hB, cellsOf_length q3]; omega), List.append_nil]) (by rw [cellsOf_length q3]; omega) q5
                          rw [Nat.add_zero] at m2 m3
                          have e2 : l' * j.sz + n' * x'.size = (l' + n') * j.sz := by rw [hx2, Nat.add_mul]
                          rw [e2] at hap
                          refine ⟨_, _, S, γ, .inl (by rw [hrun, hap]; rfl), m2, m3, .view _ _ _ _ _ fun e3 z3 xs3 hx3 => ?_, hlx⟩
                          have hx3 : upd s.o q' _ q' = some (AO.row e3 z3 xs3) := hx3
                          rw [upd_same] at hx3
                          simp only [Option.some.injEq, AO.row.injEq] at hx3
                          obtain ⟨rfl, rfl, _⟩ := hx3
                          exact .inr ⟨g, _, k, p, h1, by omega, h3, h4, fun h => (by cases h), .inl (by rw [q1])⟩
                    · split at h
                      · rename_i hc
                        obtain ⟨rfl, rfl, rfl, hb1, hb2⟩ := hc
                        simp only [Option.some.injEq] at h
                        subst h
                        obtain ⟨v1, v2⟩ := view_row hf.sto hq hvw (by omega)
                        have hln : (xs'.take n').length = n' := by simp; omega
                        obtain ⟨v', w', γ', k1, k2, k3, k4⟩ := append_own (ty := op.type) (q := some q') hΘ hf.sto (ux := ux) (uy := uy) hi hk hj hz hll hpos v1 (fun t ht => by
                          simp only [Option.some.injEq] at ht; subst ht; exact ⟨_, hq, v2⟩) (by simp) hsrc (by rw [hln]; exact hb1) (by rw [hln]; exact hb2)
                        exact ⟨v', w', S, γ', .inl (by rw [hrun, k1]; rfl), k2, k3, .row _ _ fun _ _ _ _ => k4.symm, Nat.lt_succ_self _⟩
                      · cases h
                · cases h
              · split at h
                · rename_i q xs hd
                  split at h
                  · rename_i hb
                    simp only [Option.some.injEq] at h
                    subst h
                    obtain ⟨hR, hq1, hq2⟩ := dst_of hf.sto hx hd
                    obtain ⟨v', w', γ', k1, k2, k3, k4⟩ := append_own (ty := op.type) (q := q) hΘ hf.sto (ux := ux) (uy := uy) hi hk hj hz hll hpos hR hq1 hq2 hsrc hb.1 hb.2
                    refine ⟨v', w', S, γ', .inl (by rw [hrun, k1]; rfl), ?_, ?_, .row _ _ fun _ _ _ _ => k4.symm, Nat.lt_succ_self _⟩
                    · simp only [killL_upds]; exact k2
                    · simp only [killL_upds]; exact k3
                  · cases h
                · cases h
            · cases h
          · cases hys
        · cases h
      · cases h
    · cases h
  · cases h

/-- Elements of a view written anew. -/
theorem view_write (hs : Sto w S γ s.o s.nk) {q l n e z : Nat} {c : VC} {xs ys : List D} {v : Value} {vs2 : List Value} (hq : s.o q = some (.row e z xs)) (hvw : VW z l n c (γ q) v) (hle : l + n ≤ xs.length) (hm : vs2.length ≤ n) (h0 : 0 < vs2.length) (q1 : vs2.length = ys.length)
    (q2 : ∀ (i : Nat) (x : D) (u : Value), ys[i]? = some x → vs2[i]? = some u → Rd w S x u) (q3 : ∀ (i : Nat) (u : Value), vs2[i]? = some u → u.cells.size = z) (q5 : ∀ u ∈ cellsOf vs2, u.oneCell' = true) :
    ∃ g p, v = .slice (some ⟨g, l * z, none⟩) n p ∧ (storeCells ⟨g, l * z, none⟩ (cellsOf vs2)).run P w = .ok () (w.setCells g (l * z) (cellsOf vs2)) ∧
      Sto (w.setCells g (l * z) (cellsOf vs2)) S γ (upd s.o q (some (.row e z (xs.take l ++ ys ++ xs.drop (l + ys.length))))) s.nk ∧ Tr w S γ s.o s.nk (w.setCells g (l * z) (cellsOf vs2)) S γ (upd s.o q (some (.row e z (xs.take l ++ ys ++ xs.drop (l + ys.length))))) s.nk := by
  obtain ⟨vs, hR⟩ := (hs.row _ _ _ _ hq).get
  have hvl := hR.len
  obtain ⟨g, m0, k0, p, hu, rfl⟩ := vw_blk hvw (by omega)
  have hγ : γ q = .slice (some ⟨g, 0, none⟩) xs.length k0 := by
    rcases hR.blk with ⟨h2, _⟩ | ⟨g', cap, cur, h2, _⟩
    · rw [hu] at h2; cases h2
    · rw [hu] at h2
      simp only [Value.slice.injEq] at h2
      rw [hu, h2.2.1]
  obtain ⟨m1, m2, m3⟩ := hR.write (P := P) hs hq hγ (a := l) (f := 0) (us := vs2) (ys := ys) (vals := cellsOf vs2) (by omega) q1 q2 q3 (by
    have hB : (cellsOf ((vs.drop l).take vs2.length)).length = vs2.length * z := by
      rw [cellsOf_length (z := z) (fun i u hu => by
        rw [List.getElem?_take] at hu
        split at hu
        · rw [List.getElem?_drop] at hu; exact hR.sz _ u hu
        · cases hu)]
      congr 1
      simp; omega
    rw [List.take_zero, List.nil_append, List.drop_eq_nil_of_le (by rw [hB, cellsOf_length q3]; omega), List.append_nil]) (by rw [cellsOf_length q3]; omega) q5
  exact ⟨g, p, rfl, m1, m2, m3⟩
theorem upd_same_row {o : Nat → Option AO} {q : Nat} {x : AO} (h : o q = some x) : upd o q (some x) = o := by
  funext u; unfold upd; split
  · rename_i hu; rw [hu, h]
  · rfl
theorem view_o {o : Nat → Option AO} {z q l n : Nat} {c : VC} {xs : List D} {x : SV} {e z' : Nat} {xs' : List D} (hv : viewOf o z x = some (q, l, n, c, xs)) (ho : o q = some (.row e z' xs')) : z' = z ∧ xs' = xs ∧ l + n ≤ xs.length := by
  unfold viewOf at hv
  split at hv
  · split at hv
    · rename_i h
      split at hv
      · simp only [Option.some.injEq, Prod.mk.injEq] at hv
        obtain ⟨rfl, rfl, rfl, _, rfl⟩ := hv
        rw [ho] at h
        simp only [Option.some.injEq, AO.row.injEq] at h
        obtain ⟨rfl, rfl, rfl⟩ := h
        exact ⟨by assumption, rfl, by omega⟩
      · cases hv
    · cases hv
  · split at hv
    · rename_i h
      split at hv
      · rename_i hc
        simp only [Option.some.injEq, Prod.mk.injEq] at hv
        obtain ⟨rfl, rfl, rfl, _, rfl⟩ := hv
        rw [ho] at h
        simp only [Option.some.injEq, AO.row.injEq] at h
        obtain ⟨rfl, rfl, rfl⟩ := h
        exact ⟨hc.1, rfl, hc.2⟩
      · cases hv
    · cases hv
  · cases hv
theorem w_clear (hΘ : TabOk P Θ) (hf : Fr s a w S γ) {t : TypeId} {x : Operand} {r : SV × List (Nat × Option AO) × Nat} (ho : op.op = .call { callee := .builtin .clear, args := #[x], argTypes := #[t] }) (h : nW0 Θ (.call { callee := .builtin .clear, args := #[x], argTypes := #[t] }) (ev s.sl) s.o s.nk = some r) :
    Done w S γ s.o s.nk ((execOp a.eval op).run P w) r.1 (upds s.o r.2.1) r.2.2 := by
  have hx := hf.ev x
  have hrun : (execOp a.eval op).run P w = ((Builtin.clear_ #[t] op.type #[a.eval x]).run P w).andThen fun v w' => .ok (.value v) w' := by
    unfold execOp
    simp only [ho, resolve, invoke, builtin, Sem.run_bind, Sem.run_pure, Result.andThen_ok, List.map_toArray, List.map_cons, List.map_nil]
  simp only [nW0] at h
  split at h
  · rename_i i hi
    split at h
    · rename_i e hk
      split at h
      · rename_i j hj
        split at h
        · rename_i zz q l n c xs hzz hvo
          split at h
          · rename_i hzw
            split at h
            · rename_i e' z' xs' hq
              simp only [Option.some.injEq] at h
              subst h
              obtain ⟨rfl, rfl, hle⟩ := view_o hvo hq
              obtain ⟨e2, hq2, hvw, _⟩ := viewOf_ok hf.sto hx hvo
              have hu := (hΘ t i hi).slice hk
              obtain ⟨ti, zv, hti, hzv, hzr⟩ := zero_rd (w := w) (S := S) hΘ hj hzz
              generalize a.eval x = ux at hx hrun hvw
              have tup0 : ∀ {w' : World} {γ' : Nat → Value} {o' : Nat → Option AO}, SR w' S γ' o' (.tup []) (.tuple #[]) := .tup [] [] rfl (by simp)
              by_cases hn : n = 0
              · subst hn
                obtain ⟨A, k, rfl⟩ := vw_len hvw
                have hrow : upds s.o [(q, some (AO.row e' j.sz (xs'.take l ++ List.replicate 0 zz ++ xs'.drop (l + 0))))] = s.o := by
                  simp only [upds, List.replicate_zero, List.append_nil, Nat.add_zero, List.take_append_drop]
                  exact upd_same_row hq
                show Done w S γ s.o s.nk _ (.tup []) (upds s.o _) s.nk
                rw [hrow]
                refine Done.now hf.sto (u := .tuple #[]) ?_ tup0 trivial
                rw [hrun]
                cases A <;> simp [Builtin.clear_, run_underlying hu]
              · obtain ⟨g, p, rfl, m1, m2, m3⟩ := view_write (P := P) (vs2 := List.replicate n zv) (ys := List.replicate n zz) hf.sto hq hvw hle (by simp) (by simp; omega) (by simp) (fun i x u h1 h2 => by
                    have e1 := List.eq_of_mem_replicate (List.mem_of_getElem? h1)
                    have e2 := List.eq_of_mem_replicate (List.mem_of_getElem? h2)
                    rw [e1, e2]; exact hzr) (fun i u h2 => by rw [List.eq_of_mem_replicate (List.mem_of_getElem? h2), hzr.width]; exact hzw) (fun u hu' => by
                    obtain ⟨p, hp⟩ := List.getElem?_of_mem hu'
                    obtain ⟨i, jj, q', k1, k2, _⟩ := cellsOf_get (z := j.sz) (fun i u h2 => by rw [List.eq_of_mem_replicate (List.mem_of_getElem? h2), hzr.width]; exact hzw) p u hp
                    rw [List.eq_of_mem_replicate (List.mem_of_getElem? k1)] at k2
                    exact hzr.cells_one jj u k2)
                refine ⟨.tuple #[], _, S, γ, .inl ?_, by simpa [upds] using m2, by simpa [upds] using m3, tup0, trivial⟩
                rw [hrun]
                have hz0 : (Builtin.zeroCells zv.cells n).toList = cellsOf (List.replicate n zv) := zeros_list zv n
                match n, hn with
                | n + 1, _ => simp [Builtin.clear_, run_underlying hu, zeroValue, typeInfo, hti, hzv, hz0, m1]
            · cases h
          · cases h
        · cases h
      · cases h
    · cases h
  · cases h
theorem w_copy (hΘ : TabOk P Θ) (hf : Fr s a w S γ) {t : TypeId} {ts : Array TypeId} {x y : Operand} {tr : List TypeId} {r : SV × List (Nat × Option AO) × Nat} (hts : ts.toList = t :: tr) (ho : op.op = .call { callee := .builtin .copy, args := #[x, y], argTypes := ts }) (h : nW0 Θ (.call { callee := .builtin .copy, args := #[x, y], argTypes := ts }) (ev s.sl) s.o s.nk = some r) :
    Done w S γ s.o s.nk ((execOp a.eval op).run P w) r.1 (upds s.o r.2.1) r.2.2 := by
  have hx := hf.ev x
  have hy := hf.ev y
  have ht0 : ts[0]? = some t := by rw [← Array.getElem?_toList, hts]; rfl
  have hrun : (execOp a.eval op).run P w = ((Builtin.copy_ ts op.type #[a.eval x, a.eval y]).run P w).andThen fun v w' => .ok (.value v) w' := by
    unfold execOp
    simp only [ho, resolve, invoke, builtin, Sem.run_bind, Sem.run_pure, Result.andThen_ok, List.map_toArray, List.map_cons, List.map_nil]
  simp only [nW0, hts] at h
  split at h
  · rename_i i hi
    split at h
    · rename_i e hk
      split at h
      · rename_i j hj
        split at h
        · rename_i q l n c xs ys hvo hys
          split at h
          · rename_i e' z' xs' hq
            simp only [Option.some.injEq] at h
            subst h
            obtain ⟨rfl, rfl, hle⟩ := view_o hvo hq
            obtain ⟨e2, hq2, hvw, _⟩ := viewOf_ok hf.sto hx hvo
            have hsrc := srcN_ok hf.sto hy hys
            have hu := (hΘ t i hi).slice hk
            generalize a.eval x = ux at hx hrun hvw
            generalize a.eval y = uy at hy hrun hsrc
            by_cases hn : (ys.take n).length = 0
            · have hnil : ys.take n = [] := List.eq_nil_of_length_eq_zero hn
              have hrow : upds s.o [(q, some (AO.row e' j.sz (xs'.take l ++ ys.take n ++ xs'.drop (l + (ys.take n).length))))] = s.o := by
                rw [hnil]
                simp only [upds, List.append_nil, List.length_nil, Nat.add_zero, List.take_append_drop]
                exact upd_same_row hq
              show Done w S γ s.o s.nk _ (.d (.int .i64 ((ys.take n).length : Nat))) (upds s.o _) s.nk
              rw [hrow, hn]
              obtain ⟨A, k, rfl⟩ := vw_len hvw
              obtain ⟨B, d, rfl⟩ := hsrc.len
              refine Done.now hf.sto (u := .int .i64 0) ?_ (.d _ _ (.int _ _)) trivial
              rw [hrun]
              have hmin : Nat.min ys.length n = 0 := by
                have : min n ys.length = 0 := by simpa using hn
                show min ys.length n = 0
                omega
              have hfc : (Builtin.firstCells j.sz 0 (.slice B ys.length d)).run P w = .ok #[] w := by
                cases B with
                | none => simp [Builtin.firstCells]
                | some b => exact run_firstCells_some (P := P) w j.sz 0 b _ d [] (by simp) (by simp)
              cases A <;> simp [Builtin.copy_, ht0, run_underlying hu, Builtin.lenOf, (hΘ e j hj).run_size, hmin, hfc, storeCells, goInt]
            · obtain ⟨vs2, B, d, rfl, q1, q2, q3, q4, q5⟩ := hsrc.at (by rcases Nat.eq_zero_or_pos ys.length with h | h; (· exact absurd (by simp [h]) hn); exact h)
              have hsub : ∀ (i : Nat) (u : Value), (vs2.take n)[i]? = some u → vs2[i]? = some u := fun i u h => by
                rw [List.getElem?_take] at h
                split at h
                · exact h
                · cases h
              have hsuby : ∀ (i : Nat) (u : D), (ys.take n)[i]? = some u → ys[i]? = some u := fun i u h => by
                rw [List.getElem?_take] at h
                split at h
                · exact h
                · cases h
              have hsplit : cellsOf vs2 = cellsOf (vs2.take n) ++ cellsOf (vs2.drop n) := by rw [← cellsOf_append, List.take_append_drop]
              have hln : (vs2.take n).length = (ys.take n).length := by simp [q1]
              have q3' : ∀ (i : Nat) (u : Value), (vs2.take n)[i]? = some u → u.cells.size = j.sz := fun i u h => q3 i u (hsub i u h)
              obtain ⟨g, p, rfl, m1, m2, m3⟩ := view_write (P := P) (vs2 := vs2.take n) (ys := ys.take n) hf.sto hq hvw hle (by simp; omega) (by rw [hln]; omega) hln (fun i x u h1 h2 => q2 i x u (hsuby i x h1) (hsub i u h2)) q3' (fun u hu' => q5 u (by rw [hsplit]; simp [hu']))
              refine ⟨.int .i64 (ys.take n).length, _, S, γ, .inl ?_, by simpa [upds] using m2, by simpa [upds] using m3, .d _ _ (.int _ _), trivial⟩
              rw [hrun]
              have hmin : Nat.min vs2.length n = (vs2.take n).length := by
                show min vs2.length n = _
                simp [Nat.min_comm]
              have hfc : (Builtin.firstCells j.sz (vs2.take n).length (.slice (some B) vs2.length d)).run P w = .ok (cellsOf (vs2.take n)).toArray w :=
                run_firstCells_some (P := P) w j.sz _ B _ d (cellsOf (vs2.take n)) (cellsOf_length q3') (fun jj u hj => q4 jj u (by
                  rw [hsplit, List.getElem?_append_left (List.getElem?_eq_some_iff.1 hj).1]; exact hj))
              have e0 : (vs2.take n).length = min n ys.length := by simp [q1]
              rw [e0] at hfc
              simp [Builtin.copy_, ht0, run_underlying hu, Builtin.lenOf, (hΘ e j hj).run_size, hmin, hfc, m1, goInt, e0]
          · cases h
        · cases h
      · cases h
    · cases h
  · cases h

theorem w_delete (hΘ : TabOk P Θ) (hf : Fr s a w S γ) {t : TypeId} {ts : Array TypeId} {m x : Operand} {tr : List TypeId} {r : SV × List (Nat × Option AO) × Nat} (hts : ts.toList = t :: tr) (ho : op.op = .call { callee := .builtin .delete, args := #[m, x], argTypes := ts }) (h : nW0 Θ (.call { callee := .builtin .delete, args := #[m, x], argTypes := ts }) (ev s.sl) s.o s.nk = some r) :
    Done w S γ s.o s.nk ((execOp a.eval op).run P w) r.1 (upds s.o r.2.1) r.2.2 := by
  have hm := hf.ev m
  have hx := hf.ev x
  have ht0 : ts[0]? = some t := by rw [← Array.getElem?_toList, hts]; rfl
  have hrun : (execOp a.eval op).run P w = ((Builtin.delete_ ts op.type #[a.eval m, a.eval x]).run P w).andThen fun v w' => .ok (.value v) w' := by
    unfold execOp
    simp only [ho, resolve, invoke, builtin, Sem.run_bind, Sem.run_pure, Result.andThen_ok, List.map_toArray, List.map_cons, List.map_nil]
  have tup0 : ∀ {w' : World} {γ' : Nat → Value} {o' : Nat → Option AO}, SR w' S γ' o' (.tup []) (.tuple #[]) := .tup [] [] rfl (by simp)
  simp only [nW0, hts] at h
  split at h
  · rename_i i hi
    split at h
    · rename_i kt e hk
      split at h
      · rename_i j q k hj hme hxe
        rw [hme] at hm; rw [hxe] at hx
        split at h
        · rename_i kvs hq
          split at h
          · rename_i hok
            generalize a.eval m = um at hm hrun
            generalize a.eval x = ux at hx hrun
            obtain ⟨g, es, clk, rfl, hg, hw, hmr⟩ := map_at hf.sto hq hm
            cases hx with
            | d _ _ hxr =>
              obtain ⟨k1, k2⟩ := find_k (P := P) (hΘ kt j hj) hok hxr hmr
              have hgo : (getObj g).run P w = .ok (.map es clk) w := by simp [getObj, Sem.run, hw]
              split at h
              · rename_i i0 d0 hfd
                simp only [Option.some.injEq] at h
                subst h
                rw [hfd] at k2
                obtain ⟨e0, e1, _, e2, e3⟩ := k2
                have hnew : MapRd w S (kvs.eraseIdx i0) (es.eraseIdxIfInBounds i0).toList clk := by
                  have hl : (es.eraseIdxIfInBounds i0).toList = es.toList.eraseIdx i0 := by simp
                  rw [hl]
                  refine ⟨by simp [List.length_eraseIdx, hmr.len], fun p kv e h1 h2 => ?_, fun e he => hmr.born e (List.mem_of_mem_eraseIdx he), hmr.apart.sublist (List.eraseIdx_sublist _ _)⟩
                  rw [List.getElem?_eraseIdx] at h1 h2
                  split at h1
                  · rename_i hp
                    rw [if_pos hp] at h2
                    exact hmr.rd _ _ _ h1 h2
                  · rename_i hp
                    rw [if_neg hp] at h2
                    exact hmr.rd _ _ _ h1 h2
                obtain ⟨m1, m2, m3⟩ := map_set (P := P) hf.sto hq hg hw hnew
                refine ⟨.tuple #[], _, S, γ, .inl ?_, m2, m3, tup0, trivial⟩
                rw [hrun]
                unfold Builtin.delete_
                simp [ht0, run_underlying ((hΘ t i hi).map hk), hgo, k1, e3, m1]
              · rename_i hfd
                simp only [Option.some.injEq] at h
                subst h
                rw [hfd] at k2
                obtain ⟨m1, m2, m3⟩ := map_set (P := P) hf.sto hq hg hw hmr
                have e0 : upd s.o q (some (.raw (.map kvs))) = s.o := upd_same_row hq
                rw [e0] at m2 m3
                refine ⟨.tuple #[], _, S, γ, .inl ?_, m2, m3, tup0, trivial⟩
                rw [hrun]
                unfold Builtin.delete_
                simp [ht0, run_underlying ((hΘ t i hi).map hk), hgo, k1, k2, m1]
          · cases h
        · cases h
      · cases h
    · cases h
  · cases h
theorem natV_ok {c : SV} {v : Value} {n : Nat} (h : SR w S γ s.o c v) (hn : natV c = some n) : ∃ k, v = .int k (n : Int) ∧ n ≤ 9223372036854775807 := by
  unfold natV at hn
  split at hn
  · split at hn
    · rename_i k m hc
      simp only [Option.some.injEq] at hn
      subst hn
      cases h with
      | d _ _ hr => cases hr with
        | int => exact ⟨k, by rw [Int.toNat_of_nonneg hc.1], by omega⟩
    · cases hn
  · cases hn
theorem w_makeSlice (hΘ : TabOk P Θ) (hf : Fr s a w S γ) {t : TypeId} {x y : Operand} {r : SV × List (Nat × Option AO) × Nat} (ho : op.op = .makeSlice t x y) (h : nW0 Θ (.makeSlice t x y) (ev s.sl) s.o s.nk = some r) :
    Done w S γ s.o s.nk ((execOp a.eval op).run P w) r.1 (upds s.o r.2.1) r.2.2 := by
  have hx := hf.ev x
  have hy := hf.ev y
  have hrun : (execOp a.eval op).run P w = ((Instr.makeSlice t (a.eval x) (a.eval y)).run P w).andThen fun u w' => .ok (.value u) w' := by simp [execOp, ho]
  simp only [nW0] at h
  split at h
  · rename_i i hi
    split at h
    · rename_i e hk
      split at h
      · rename_i j hj
        split at h
        · rename_i zz l c hzz hxl hyc
          split at h
          · rename_i hc
            obtain ⟨hlc, hcells, hbytes, hpos, hzw⟩ := hc
            simp only [Option.some.injEq] at h
            subst h
            obtain ⟨ti, zv, hti, hzv, hzr⟩ := zero_rd (w := w) (S := S) hΘ hj hzz
            obtain ⟨x', hx1, hx2, hx3⟩ := (hΘ e j hj).info
            have hxx : x' = ti := by rw [hx1] at hti; exact Option.some.inj hti
            subst hxx
            obtain ⟨k1, e1, b1⟩ := natV_ok hx hxl
            obtain ⟨k2, e2, b2⟩ := natV_ok hy hyc
            rw [e1, e2] at hrun
            have hb48 : (x'.bytes : Int) * (c : Int) ≤ 281474976710656 := by
              have h : ((j.bys * c : Nat) : Int) ≤ 281474976710656 := by omega
              rw [hx3]; rwa [Int.natCast_mul] at h
            have hr := run_makeSlice (P := P) w t e x' zv ((hΘ t i hi).slice hk) hx1 hzv k1 k2 l c (by omega) (by omega) (by rw [hx2]; simpa using hcells) hb48 (by omega)
            simp only [Int.toNat_natCast] at hr
            have hzs : zv.cells.size = j.sz := by rw [hzr.width]; exact hzw
            have hmade : (madeCells zv.cells (c * x'.size)).toList = cellsOf (List.replicate c zv) := by rw [hx2, ← hzs]; exact made_list zv c
            have hrep : ∀ (m i : Nat) (u : Value), (List.replicate m zv)[i]? = some u → u.cells.size = j.sz := fun m i u h => by rw [List.eq_of_mem_replicate (List.mem_of_getElem? h)]; exact hzs
            have hln : ∀ m, (cellsOf (List.replicate m zv)).length = m * j.sz := fun m => by rw [cellsOf_length (hrep m)]; simp
            have hR : RowAt (w.alloc (.cells (madeCells zv.cells (c * x'.size)) e)) S (.slice (some ⟨w.heap.size, 0, none⟩) l c) e j.sz (List.replicate l zz) := by
              refine ⟨List.replicate l zv, ?_, by simp, fun i x u h1 h2 => ?_, hrep l⟩
              · refine ⟨by rw [hln]; simp, .inr ⟨w.heap.size, c, _, by simp, Nat.zero_le _, heap_alloc_new w _, by simpa using hlc, by simp only [maxLen]; exact b2, ?_, ?_⟩⟩
                · have : (madeCells zv.cells (c * x'.size)).toList.length = c * j.sz := by rw [hmade, hln]
                  simpa using this
                · rw [hmade, List.length_replicate]
                  have : List.replicate c zv = List.replicate l zv ++ List.replicate (c - l) zv := by rw [List.replicate_append_replicate]; congr 1; omega
                  rw [this, cellsOf_append, ← hln l]
                  exact List.take_left
              · rw [List.eq_of_mem_replicate (List.mem_of_getElem? h1), List.eq_of_mem_replicate (List.mem_of_getElem? h2)]
                exact hzr.mono (fun _ h => h) (fun k hk => alloc_old w _ k (hf.sto.s_lt k hk))
            obtain ⟨m1, m2⟩ := hf.sto.put_row (w' := w.alloc (.cells (madeCells zv.cells (c * x'.size)) e)) none (v := .slice (some ⟨w.heap.size, 0, none⟩) l c) (e := e) (z := j.sz) (xs := List.replicate l zz) none (by simp) (fun _ => rfl) rfl rfl rfl (by simp) (fun k hk _ => alloc_old w _ k hk) hR (fun g hg => by
              simp [blk] at hg; subst hg; simp)
            refine ⟨_, _, S, _, .inl (by rw [hrun, hr]; rfl), m1, m2, .row _ _ fun _ _ _ _ => (upd_same _ _ _).symm, Nat.lt_succ_self _⟩
          · cases h
        · cases h
      · cases h
    · cases h
  · cases h
theorem nW0_sound (hΘ : TabOk P Θ) (hf : Fr s a w S γ) {r : SV × List (Nat × Option AO) × Nat} (h : nW0 Θ op.op (ev s.sl) s.o s.nk = some r) : Done w S γ s.o s.nk ((execOp a.eval op).run P w) r.1 (upds s.o r.2.1) r.2.2 := by
  generalize ho : op.op = o0 at h
  cases o0 with
  | store t x y => exact w_store2 hΘ hf ho h
  | makeMap t x => exact w_makeMap hΘ hf ho h
  | mapUpdate t m x y => exact w_mapUpdate hΘ hf ho h
  | makeSlice t x y => exact w_makeSlice hΘ hf ho h
  | call c =>
    obtain ⟨callee, args, ts⟩ := c
    have h' := h
    simp only [nW0] at h
    split at h
    · rename_i x y t u ha ht
      have e1 : args = #[x, y] := by apply Array.ext'; simpa using ha
      have e2 : ts = #[t, u] := by apply Array.ext'; simpa using ht
      subst e1; subst e2
      exact w_append hΘ hf ho h'
    · rename_i x t ha ht
      have e1 : args = #[x] := by apply Array.ext'; simpa using ha
      have e2 : ts = #[t] := by apply Array.ext'; simpa using ht
      subst e1; subst e2
      exact w_clear hΘ hf ho h'
    · rename_i x y t tr ha ht
      have e1 : args = #[x, y] := by apply Array.ext'; simpa using ha
      subst e1
      exact w_copy hΘ hf ht ho h'
    · rename_i m x t tr ha ht
      have e1 : args = #[m, x] := by apply Array.ext'; simpa using ha
      subst e1
      exact w_delete hΘ hf ht ho h'
    · cases h
  | _ => simp [nW0] at h
def rowOf : SV → Option Nat
  | .row t => some t
  | .view t _ _ _ => some t
  | _ => none
/-- A row that a writer is handed is frozen as it is handed over. -/
def nWF (Θ : Tab) (op : Op) (ev : Operand → SV) (o : Nat → Option AO) (nk : Nat) : List Operand → Option (SV × List (Nat × Option AO) × Nat)
  | [] => none
  | x :: r => match rowOf (ev x) with
    | some t => match o t with
      | some (.row _ z xs) => match nW0 Θ op (fun y => (ev y).frz t (.sl z xs)) (upd o t none) nk with
        | some (v, l, nk') => some (v, (t, none) :: l, nk')
        | none => nWF Θ op ev o nk r
      | _ => nWF Θ op ev o nk r
    | none => nWF Θ op ev o nk r
/-- What writes. -/
def nW (Θ : Tab) (op : Op) (ev : Operand → SV) (o : Nat → Option AO) (nk : Nat) : Option (SV × List (Nat × Option AO) × Nat) :=
  match nW0 Θ op ev o nk with
  | some r => some r
  | none => nWF Θ op ev o nk op.operands.toList
theorem nW_of0 {Θ : Tab} {op : Op} {ev : Operand → SV} {o : Nat → Option AO} {nk : Nat} {r : SV × List (Nat × Option AO) × Nat} (h : nW0 Θ op ev o nk = some r) : nW Θ op ev o nk = some r := by
  unfold nW; rw [h]
theorem nW_ofF {Θ : Tab} {op : Op} {ev : Operand → SV} {o : Nat → Option AO} {nk : Nat} {r : SV × List (Nat × Option AO) × Nat} (h0 : nW0 Θ op ev o nk = none) (h : nWF Θ op ev o nk op.operands.toList = some r) : nW Θ op ev o nk = some r := by
  unfold nW; rw [h0]; exact h
theorem nWF_congr {Θ : Tab} {op : Op} {ev ev' : Operand → SV} {o : Nat → Option AO} {nk : Nat} (h : ∀ x ∈ op.operands, ev x = ev' x) : ∀ l : List Operand, (∀ x ∈ l, x ∈ op.operands) → nWF Θ op ev o nk l = nWF Θ op ev' o nk l
  | [], _ => rfl
  | x :: l, hl => by
    have ih := nWF_congr (Θ := Θ) (o := o) (nk := nk) h l fun y hy => hl y (by simp [hy])
    have hf : ∀ (t : Nat) (d : D) (o1 : Nat → Option AO), nW0 Θ op (fun y => (ev y).frz t d) o1 nk = nW0 Θ op (fun y => (ev' y).frz t d) o1 nk := fun t d o1 => nW0_congr (Θ := Θ) (op := op) fun y hy => by show (ev y).frz t d = (ev' y).frz t d; rw [h y hy]
    simp only [nWF]
    rw [h x (hl x (by simp)), ih]
    simp only [hf]
theorem nW_congr {Θ : Tab} {op : Op} {ev ev' : Operand → SV} {o : Nat → Option AO} {nk : Nat} (h : ∀ x ∈ op.operands, ev x = ev' x) : nW Θ op ev o nk = nW Θ op ev' o nk := by
  unfold nW
  rw [nW0_congr h, nWF_congr h _ fun x hx => by simpa using hx]
theorem cst_frz (v : Value) (t : Nat) (x : D) : (cst v).frz t x = cst v := by
  unfold cst
  split <;> first | rfl | (split <;> rfl)
theorem ev_frz (sl : Nat → SV) (t : Nat) (x : D) : ev (fun u => (sl u).frz t x) = fun y => (ev sl y).frz t x := by
  funext y
  cases y with
  | tmp u => rfl
  | const v => exact (cst_frz v t x).symm
  | func f => rfl
  | global g => rfl
theorem nWF_sound (hΘ : TabOk P Θ) (hf : Fr s a w S γ) : ∀ (l : List Operand) {r : SV × List (Nat × Option AO) × Nat}, nWF Θ op.op (ev s.sl) s.o s.nk l = some r → Done w S γ s.o s.nk ((execOp a.eval op).run P w) r.1 (upds s.o r.2.1) r.2.2
  | [], r, h => by simp [nWF] at h
  | x :: l, r, h => by
    simp only [nWF] at h
    split at h
    · rename_i t hx
      split at h
      · rename_i e z xs ht
        split at h
        · rename_i v l' nk' hw
          simp only [Option.some.injEq] at h
          subst h
          obtain ⟨k1, k2, k3⟩ := hf.sto.freeze ht
          have hf1 : Fr { sl := fun u => (s.sl u).frz t (.sl z xs), o := upd s.o t none, nk := s.nk } a w _ γ := ⟨k1, fun u => (hf.sl u).frz hf.sto ht (hf.slt u), fun u => SV.frz_lt (hf.slt u)⟩
          rw [← ev_frz] at hw
          obtain ⟨u, w', S', γ', g1, g2, g3, g4, g5⟩ := nW0_sound hΘ hf1 hw
          exact ⟨u, w', S', γ', g1, g2, k2.trans g3, g4, g5⟩
        · exact nWF_sound hΘ hf l h
      · exact nWF_sound hΘ hf l h
    · exact nWF_sound hΘ hf l h
theorem nW_sound (hΘ : TabOk P Θ) (hf : Fr s a w S γ) {r : SV × List (Nat × Option AO) × Nat} (h : nW Θ op.op (ev s.sl) s.o s.nk = some r) : Done w S γ s.o s.nk ((execOp a.eval op).run P w) r.1 (upds s.o r.2.1) r.2.2 := by
  unfold nW at h
  split at h
  · rename_i r0 h0
    simp only [Option.some.injEq] at h
    subst h
    exact nW0_sound hΘ hf h0
  · exact nWF_sound hΘ hf _ h
end
end Go.Proofs.YtpkcbdhjnnnkbaaGreat.Abs

/- One operation: what it makes of what is known; regions, in order and drawn; tests; bodies. -/
set_option linter.unusedVariables false
set_option linter.unusedSimpArgs false
namespace Go.Proofs.YtpkcbdhjnnnkbaaGreat.Abs
open Go

def blOp (Θ : Tab) (s : St) (b : Builtin) (ts : Array TypeId) (args : List Operand) (K : SV → (Nat → Option AO) → Nat → Prop) : Prop :=
  match b, args with
  | .len, [x] => leOp Θ s.o ts (ev s.sl x) (fun v => K v s.o s.nk)
  | .append, [x, y] => apOp Θ s.o s.nk ts (ev s.sl x) (ev s.sl y) K
  | .max, [x, y] => ∃ r, mmD true (ev s.sl x) (ev s.sl y) = some r ∧ K (.d r) s.o s.nk
  | .min, [x, y] => ∃ r, mmD false (ev s.sl x) (ev s.sl y) = some r ∧ K (.d r) s.o s.nk
  | _, _ => False

def ncOp (o : Nat → Option AO) (c : SV) : Prop :=
  match c with
  | .loc k _ => ∃ cs, o k = some (.box cs)
  | .el _ => True
  | .clo _ _ _ => True
  | _ => False

/-- What an operation does, seen from a state. -/
def vOp0 (P : Program) (Θ : Tab) (op : Op) (s : St) (K : SV → (Nat → Option AO) → Nat → Prop) : Prop :=
  match op with
  | .move x => K (ev s.sl x) s.o s.nk
  | .assign x => K (ev s.sl x) s.o s.nk
  | .pick c x y => ∃ b, ev s.sl c = .d (.bool b) ∧ K (if b = true then ev s.sl x else ev s.sl y) s.o s.nk
  | .alloc e => ∃ i l, Θ e = some i ∧ i.z = some l ∧ K (.loc s.nk 0) (upd s.o s.nk (some (.box (l.map .d)))) (s.nk + 1)
  | .box e x => ∃ cs, (ev s.sl x).cells s.o = some cs ∧ K (.loc s.nk 0) (upd s.o s.nk (some (.box cs))) (s.nk + 1)
  | .build t parts => buOp Θ t (parts.toList.map fun p => (p.1, ev s.sl p.2)) (fun v => K v s.o s.nk)
  | .buildSlice t n parts => bsOp Θ s.o s.nk t n (parts.toList.map fun p => (p.1, ev s.sl p.2)) K
  | .load t x => ldOp Θ s.o t (ev s.sl x) (fun v => K v s.o s.nk)
  | .store t x y => stOp Θ s.o t (ev s.sl x) (ev s.sl y) (fun o' => K .any o' s.nk)
  | .nilCheck x => ncOp s.o (ev s.sl x) ∧ K (ev s.sl x) s.o s.nk
  | .binOp b t x y _ => bnOp Θ s.o b t (ev s.sl x) (ev s.sl y) (fun v => K v s.o s.nk)
  | .unOp b _ x => ∃ r, unOpD b (ev s.sl x) = some r ∧ K (.d r) s.o s.nk
  | .convert src dst x => coOp Θ s.o src dst (ev s.sl x) (fun v => K v s.o s.nk)
  | .makeFunc fn fs cs => match fn with
    | .func f => K (.clo f (fs.toList.map (ev s.sl)) (cs.toList.map (ev s.sl))) s.o s.nk
    | _ => False
  | .slice t x lo hi mx => slOp Θ s.o s.nk t (ev s.sl x) (lo.map (ev s.sl)) (hi.map (ev s.sl)) (mx.map (ev s.sl)) K
  | .fieldAddr t x f => fdOp Θ s.o t (ev s.sl x) f (fun v => K v s.o s.nk)
  | .field t x f => fvOp Θ t (ev s.sl x) f (fun v => K v s.o s.nk)
  | .indexAddr t x ix => ixOp Θ s.o t (ev s.sl x) (ev s.sl ix) (fun v => K v s.o s.nk)
  | .index t x ix => ∃ i l k n, Θ t = some i ∧ i.k = .str ∧ ev s.sl x = .d (.str l) ∧ ev s.sl ix = .d (.int k n) ∧ 0 ≤ n ∧ n.toNat < l.length ∧ K (.d (.int .u8 (bAt l n.toNat))) s.o s.nk
  | .extract x q => ∃ xs c, ev s.sl x = .tup xs ∧ xs[q]? = some c ∧ K c s.o s.nk
  | .call c => match c.callee with
    | .builtin b => blOp Θ s b c.argTypes c.args.toList K
    | .value x => ∃ f fs cs, ev s.sl x = .clo f fs cs ∧ Spec P f (fs ++ c.args.toList.map (ev s.sl) ++ cs) s.o s.nk K
    | _ => False
  | .range t x => ∃ i l, Θ t = some i ∧ i.k = .str ∧ ev s.sl x = .d (.str l) ∧ K (.raw s.nk) (upd s.o s.nk (some (.raw (itOb l 0)))) (s.nk + 1)
  | .next x b => b = true ∧ ∃ k l pos, ev s.sl x = .raw k ∧ s.o k = some (.raw (itOb l pos)) ∧
      if pos < l.length then K (.tup [.d (.bool true), .d (.int .i64 pos), .d (.int .i32 (Utf8.decode ⟨l.toArray⟩ pos).1)]) (upd s.o k (some (.raw (itOb l (pos + (Utf8.decode ⟨l.toArray⟩ pos).2))))) s.nk
      else K (.tup [.d (.bool false)]) s.o s.nk
  | .makeMap t r => r = none ∧ K (.raw s.nk) (upd s.o s.nk (some (.raw (setOb [])))) (s.nk + 1)
  | .lookup t m x b => b = false ∧ ∃ kt e i j je q ks k, Θ t = some i ∧ i.k = .map kt e ∧ Θ kt = some j ∧ j.k = .str ∧ Θ e = some je ∧ je.z = some [.bool false] ∧ je.k = .bool ∧ ev s.sl m = .raw q ∧ s.o q = some (.raw (setOb ks)) ∧ ev s.sl x = .d (.str k) ∧ K (.d (.bool (decide (k ∈ ks)))) s.o s.nk
  | .mapUpdate t m x y => ∃ kt e i j q ks k, Θ t = some i ∧ i.k = .map kt e ∧ Θ kt = some j ∧ j.k = .str ∧ ev s.sl m = .raw q ∧ s.o q = some (.raw (setOb ks)) ∧ ev s.sl x = .d (.str k) ∧ ev s.sl y = .d (.bool true) ∧ k ∉ ks ∧ K .any (upd s.o q (some (.raw (setOb (ks ++ [k]))))) s.nk
  | _ => False

/-- What an operation does, that is a function of what is told. -/
def nOp (Θ : Tab) (op : Op) (s : St) (K : SV → (Nat → Option AO) → Nat → Prop) : Prop :=
  (∃ v, nQ Θ op (ev s.sl) s.o = some v ∧ K v s.o s.nk) ∨ ∃ r, nW Θ op (ev s.sl) s.o s.nk = some r ∧ K r.1 (upds s.o r.2.1) r.2.2
def vOp (P : Program) (Θ : Tab) (op : Op) (s : St) (K : SV → (Nat → Option AO) → Nat → Prop) : Prop := vOp0 P Θ op s K ∨ nOp Θ op s K

/-- What an operation's result leads to. -/
def Eff (P : Program) (R : Value → World → Prop) (r : Result Next) : Prop :=
  match r with
  | .ok (.value v) w' => R v w'
  | .ok .skip w' => R undef w'
  | .ok (.enter g asx) w' => Calls P g asx w' fun e w'' => ∃ v, e = .returned v ∧ R v w''
  | .ok (.row r asx) w' => Rows P r asx w' R
  | _ => False

theorem Eff.of_done {P : Program} {w : World} {S : Nat → Prop} {γ : Nat → Value} {o : Nat → Option AO} {nk : Nat} {r : Result Next} {v : SV} {o' : Nat → Option AO} {nk' : Nat} {K : SV → (Nat → Option AO) → Nat → Prop}
    (h : Done w S γ o nk r v o' nk') (hK : K v o' nk') : Eff P (Post P w S γ o nk K) r := by
  obtain ⟨u, w', S', γ', hr, h1, h2, h3, h4⟩ := h
  rcases hr with rfl | ⟨rfl, rfl⟩
  · exact ⟨v, o', nk', S', γ', hK, h1, h2, h3, h4⟩
  · exact ⟨v, o', nk', S', γ', hK, h1, h2, h3, h4⟩

section
variable {P : Program} {Θ : Tab} {s : St} {a : Act} {w : World} {S : Nat → Prop} {γ : Nat → Value} {op : Oper}

theorem list_one {α : Type} {xs : Array α} {x : α} (h : xs.toList = [x]) : xs = #[x] := by apply Array.ext'; simpa using h
theorem list_two {α : Type} {xs : Array α} {x y : α} (h : xs.toList = [x, y]) : xs = #[x, y] := by apply Array.ext'; simpa using h

theorem bl_sound (hΘ : TabOk P Θ) (hf : Fr s a w S γ) {b : Builtin} {c : Call} {K : SV → (Nat → Option AO) → Nat → Prop} (ho : op.op = .call c) (hc : c.callee = .builtin b) (h : blOp Θ s b c.argTypes c.args.toList K) :
    Eff P (Post P w S γ s.o s.nk K) ((execOp a.eval op).run P w) := by
  obtain ⟨ce, ar, ts⟩ := c
  simp only at hc h
  subst hc
  unfold blOp at h
  split at h
  · rename_i x hx
    obtain rfl := list_one hx
    obtain ⟨v, h1, h2⟩ := done_len hΘ hf ho h
    exact Eff.of_done h1 h2
  · rename_i x y hx
    obtain rfl := list_two hx
    obtain ⟨v, o', nk', h1, h2⟩ := done_append hΘ hf ho h
    exact Eff.of_done h1 h2
  · rename_i x y hx
    obtain rfl := list_two hx
    obtain ⟨r, h1, h2⟩ := h
    exact Eff.of_done (done_mm hf (.inl rfl) ho h1) h2
  · rename_i x y hx
    obtain rfl := list_two hx
    obtain ⟨r, h1, h2⟩ := h
    exact Eff.of_done (done_mm hf (.inr rfl) ho h1) h2
  · exact h.elim

theorem vOp0_sound (hΘ : TabOk P Θ) (hf : Fr s a w S γ) {K : SV → (Nat → Option AO) → Nat → Prop} (h : vOp0 P Θ op.op s K) : Eff P (Post P w S γ s.o s.nk K) ((execOp a.eval op).run P w) := by
  unfold vOp0 at h
  split at h
  case h_1 x hx => exact Eff.of_done (done_move hf (.inl hx)) h
  case h_2 x hx => exact Eff.of_done (done_move hf (.inr hx)) h
  case h_3 c x y hx => obtain ⟨b, h1, h2⟩ := h; exact Eff.of_done (done_pick hf hx h1) h2
  case h_4 e hx => obtain ⟨i, l, h1, h2, h3⟩ := h; exact Eff.of_done (done_alloc hΘ hf hx h1 h2) h3
  case h_5 e x hx => obtain ⟨cs, h1, h2⟩ := h; exact Eff.of_done (done_box hf hx h1) h2
  case h_6 t parts hx => obtain ⟨v, h1, h2⟩ := done_build hΘ hf hx h; exact Eff.of_done h1 h2
  case h_7 t n parts hx => obtain ⟨v, o', nk', h1, h2⟩ := done_buildSlice hΘ hf hx h; exact Eff.of_done h1 h2
  case h_8 t x hx => obtain ⟨v, h1, h2⟩ := done_load hΘ hf hx h; exact Eff.of_done h1 h2
  case h_9 t x y hx => obtain ⟨o', h1, h2⟩ := done_store hΘ hf hx h; exact Eff.of_done h1 h2
  case h_10 x hx =>
    obtain ⟨h1, h2⟩ := h
    refine Eff.of_done (Done.now hf.sto (u := a.eval x) ?_ (hf.ev x) (hf.lt x)) h2
    have hv := hf.ev x
    generalize Abs.ev s.sl x = c at h1 hv
    generalize hu : a.eval x = u at hv
    unfold ncOp at h1
    split at h1
    · obtain ⟨cs, hcs⟩ := h1
      cases hv with
      | loc _ _ _ hl =>
        obtain ⟨g, _, rfl⟩ := hl cs hcs
        simp [execOp, hx, hu]
    · cases hv with
      | el => simp [execOp, hx, hu]
    · cases hv with
      | clo => simp [execOp, hx, hu]
    · exact h1.elim
  case h_11 b t x y u hx => obtain ⟨v, h1, h2⟩ := done_binOp hΘ hf hx h; exact Eff.of_done h1 h2
  case h_12 b t x hx => obtain ⟨r, h1, h2⟩ := h; exact Eff.of_done (done_unOp hf hx h1) h2
  case h_13 src dst x hx => obtain ⟨v, h1, h2⟩ := done_convert hΘ hf hx h; exact Eff.of_done h1 h2
  case h_14 fn fs cs hx =>
    split at h
    · exact Eff.of_done (done_makeFunc hf hx) h
    · exact h.elim
  case h_15 t x lo hi mx hx => obtain ⟨v, o', nk', h1, h2⟩ := done_slice hΘ hf hx h; exact Eff.of_done h1 h2
  case h_16 t x f hx => obtain ⟨v, h1, h2⟩ := done_fieldAddr hΘ hf hx h; exact Eff.of_done h1 h2
  case h_17 t x f hx => obtain ⟨v, h1, h2⟩ := done_field hΘ hf hx h; exact Eff.of_done h1 h2
  case h_18 t x ix hx => obtain ⟨v, h1, h2⟩ := done_indexAddr hΘ hf hx h; exact Eff.of_done h1 h2
  case h_19 t x ix hx => obtain ⟨i, l, k, n, h1, h2, h3, h4, h5, h6, h7⟩ := h; exact Eff.of_done (done_index hΘ hf hx h1 h2 h3 h4 h5 h6) h7
  case h_20 x q hx => obtain ⟨xs, c, h1, h2, h3⟩ := h; exact Eff.of_done (done_extract hf hx h1 h2) h3
  case h_21 c hx =>
    split at h
    · rename_i b hb
      exact bl_sound hΘ hf hx hb h
    · rename_i x hc
      obtain ⟨f, fs, cs, h1, h2⟩ := h
      have hv := hf.ev x
      have hl := hf.lt x
      rw [h1] at hv hl
      generalize hu : a.eval x = u at hv
      cases hv with
      | clo _ _ _ us vs e1 e2 e3 e4 =>
        have hspec := h2 w S γ (us ++ c.args.toList.map a.eval ++ vs) hf.sto (by simp [e1, e3]) (fun i cc v hc' hv' => ?_) (lts_of fun i cc hc' => ?_)
        · unfold Does at hspec
          have hrun : (execOp a.eval op).run P w = (callFunc f (us ++ c.args.toList.map a.eval ++ vs).toArray).run P w := by
            have e : (us.toArray ++ c.args.map a.eval ++ vs.toArray) = (us ++ c.args.toList.map a.eval ++ vs).toArray := by
              apply Array.ext'
              simp
            unfold execOp
            simp only [hx, resolve, hc, hu, Deferred.ofValue, Sem.run_bind, Sem.run_pure, Result.andThen_ok, invoke, e]
          rw [hrun]
          unfold Eff
          generalize (callFunc f _).run P w = r at hspec
          cases r with
          | ok n w' => cases n <;> first | exact hspec | exact hspec.elim
          | halt x w' => exact hspec.elim
        · rcases Nat.lt_or_ge i (fs ++ c.args.toList.map (Abs.ev s.sl)).length with hlt | hge
          · rw [List.getElem?_append_left hlt] at hc'
            rw [List.getElem?_append_left (by simpa [e1] using hlt)] at hv'
            rcases Nat.lt_or_ge i fs.length with hlt2 | hge2
            · rw [List.getElem?_append_left hlt2] at hc'
              rw [List.getElem?_append_left (by omega)] at hv'
              exact e2 i cc v hc' hv'
            · rw [List.getElem?_append_right hge2, List.getElem?_map] at hc'
              rw [List.getElem?_append_right (by omega), e1, List.getElem?_map] at hv'
              obtain ⟨y, hy, rfl⟩ := Option.map_eq_some_iff.1 hc'
              rw [hy] at hv'
              simp only [Option.map_some, Option.some.injEq] at hv'
              subst hv'
              exact hf.ev y
          · rw [List.getElem?_append_right hge] at hc'
            rw [List.getElem?_append_right (by simpa [e1] using hge)] at hv'
            have : (us ++ c.args.toList.map a.eval).length = (fs ++ c.args.toList.map (Abs.ev s.sl)).length := by simp [e1]
            rw [this] at hv'
            exact e4 _ cc v hc' hv'
        · have hm := List.mem_of_getElem? hc'
          simp only [List.mem_append, List.mem_map] at hm
          rcases hm with (hm | ⟨y, _, rfl⟩) | hm
          · obtain ⟨j, hj⟩ := List.getElem?_of_mem hm
            exact lts_get hl.1 j cc hj
          · exact hf.lt y
          · obtain ⟨j, hj⟩ := List.getElem?_of_mem hm
            exact lts_get hl.2 j cc hj
    · exact h.elim
  case h_22 t x hx => obtain ⟨i, l, h1, h2, h3, h4⟩ := h; exact Eff.of_done (done_range hΘ hf hx h1 h2 h3) h4
  case h_23 x b hx =>
    obtain ⟨rfl, k, l, pos, h1, h2, h3⟩ := h
    have hd := done_next (P := P) hf hx h1 h2
    by_cases hp : pos < l.length
    · rw [if_pos hp] at h3 hd; exact Eff.of_done hd h3
    · rw [if_neg hp] at h3 hd; exact Eff.of_done hd h3
  case h_24 t r hx => obtain ⟨rfl, h⟩ := h; exact Eff.of_done (done_makeMap hf hx) h
  case h_25 t m x b hx => obtain ⟨rfl, kt, e, i, j, je, q, ks, k, h1, h2, h3, h4, h5, h6, h7, h8, h9, h10, h11⟩ := h; exact Eff.of_done (done_lookup hΘ hf hx h1 h2 h3 h4 h5 h6 h7 h8 h9 h10) h11
  case h_26 t m x y hx => obtain ⟨kt, e, i, j, q, ks, k, h1, h2, h3, h4, h5, h6, h7, h8, h9, h10⟩ := h; exact Eff.of_done (done_mapUpdate hΘ hf hx h1 h2 h3 h4 h5 h6 h7 h8 h9) h10
  case h_27 => exact h.elim

theorem vOp_sound (hΘ : TabOk P Θ) (hf : Fr s a w S γ) {K : SV → (Nat → Option AO) → Nat → Prop} (h : vOp P Θ op.op s K) : Eff P (Post P w S γ s.o s.nk K) ((execOp a.eval op).run P w) := by
  rcases h with h | ⟨v, h, hK⟩ | ⟨r, h, hK⟩
  · exact vOp0_sound hΘ hf h
  · exact Eff.of_done (nQ_sound hΘ hf h) hK
  · exact Eff.of_done (nW_sound hΘ hf h) hK
end
end Go.Proofs.YtpkcbdhjnnnkbaaGreat.Abs

/- Regions, in their order and drawn; tests; bodies of functions. -/
set_option linter.unusedVariables false
set_option linter.unusedSimpArgs false
namespace Go.Proofs.YtpkcbdhjnnnkbaaGreat.Abs
open Go

def pt (sl : Nat → SV) : Option Nat → SV → Nat → SV
  | some d, v => upd sl d v
  | none, _ => sl

def dstOk (n : Nat) : Option Nat → Bool
  | some d => decide (d < n)
  | none => true

theorem Rl.fr {E : Ent} {s : St} {a : Act} {w : World} {S : Nat → Prop} {γ : Nat → Value} (h : Rl E s a w S γ) : Fr s a w S γ := ⟨h.sto, h.sl, h.slt⟩

theorem put_size (a : Act) (d : Option Nat) (u : Value) : (a.put d u).tmps.size = a.tmps.size := by
  cases d <;> simp [Act.put]
theorem put_defers (a : Act) (d : Option Nat) (u : Value) : (a.put d u).defers = a.defers := by
  cases d <;> simp [Act.put]

theorem Rl.put {E : Ent} {s : St} {a : Act} {w w' : World} {S S' : Nat → Prop} {γ γ' : Nat → Value} {o' : Nat → Option AO} {nk' : Nat} {d : Option Nat} {v : SV} {u : Value}
    (h : Rl E s a w S γ) (hd : dstOk E.n d = true) (hs : Sto w' S' γ' o' nk') (ht : Tr w S γ s.o s.nk w' S' γ' o' nk') (hr : SR w' S' γ' o' v u) (hl : v.lt nk') :
    Rl E { sl := pt s.sl d v, o := o', nk := nk' } (a.put d u) w' S' γ' where
  sto := hs
  tr := h.tr.trans ht
  df := by rw [put_defers]; exact h.df
  nn := by rw [put_size]; exact h.nn
  sl := fun x => by
    cases d with
    | none => exact (h.sl x).tr h.sto ht (h.slt x)
    | some d =>
      simp only [dstOk, decide_eq_true_eq] at hd
      have hlt : d < a.tmps.size := by rw [h.nn]; exact hd
      by_cases hx : x = d
      · subst hx
        have : (a.put (some x) u).tmps.getD x undef = u := by simp [Act.put, hlt]
        rw [this]
        show SR w' S' γ' o' (upd s.sl x v x) u
        rw [upd_same]
        exact hr
      · have : (a.put (some d) u).tmps.getD x undef = a.tmps.getD x undef := by
          simp [Act.put, Array.getElem?_setIfInBounds_ne (Ne.symm hx)]
        rw [this]
        show SR w' S' γ' o' (upd s.sl d v x) _
        rw [upd_ne _ _ hx]
        exact (h.sl x).tr h.sto ht (h.slt x)
  slt := fun x => by
    cases d with
    | none => exact SV.lt_mono ht.nks (h.slt x)
    | some d =>
      show (upd s.sl d v x).lt nk'
      by_cases hx : x = d
      · subst hx; rw [upd_same]; exact hl
      · rw [upd_ne _ _ hx]; exact SV.lt_mono ht.nks (h.slt x)

/-- The slot that a guard looks at. -/
def gsl (ops : Array Oper) (s : St) (j : Nat) : SV :=
  match (ops[j]?).bind (·.dst) with
  | some d => s.sl d
  | none => .any

/-- An operation that leaves the objects, and what it yields. -/
def pOp (P : Program) (Θ : Tab) (op : Op) (s : St) (v : SV) : Prop := vOp P Θ op s fun v' o' nk' => v' = v ∧ o' = s.o ∧ nk' = s.nk

/-- A value that is there if c holds. -/
def cnd (c : Bool) (v : SV) : SV := if c = true then v else .tup []
/-- What a guard comes to, by the slot that it looks at. -/
def GC (g : SV) (want c : Bool) : Prop :=
  (∃ b, g = .d (.bool b) ∧ c = (if want = true then b else !b)) ∨ ∃ c0 b, g = cnd c0 (.d (.bool b)) ∧ c = (c0 && (if want = true then b else !b))
theorem GC.t (b : Bool) : GC (.d (.bool b)) true b := .inl ⟨b, rfl, rfl⟩
theorem GC.f (b : Bool) : GC (.d (.bool b)) false (!b) := .inl ⟨b, rfl, rfl⟩
theorem GC.ct (c b : Bool) : GC (cnd c (.d (.bool b))) true (c && b) := .inr ⟨c, b, rfl, rfl⟩
theorem GC.cf (c b : Bool) : GC (cnd c (.d (.bool b))) false (c && !b) := .inr ⟨c, b, rfl, rfl⟩

/-- The same, heeding its guard. -/
def gOp (P : Program) (Θ : Tab) (ops : Array Oper) (op : Oper) (s : St) (v : SV) : Prop :=
  match op.guard with
  | none => pOp P Θ op.op s v
  | some (j, want) => ∃ c v', GC (gsl ops s j) want c ∧ (c = true → pOp P Θ op.op s v') ∧ v = cnd c v'

def vOps (P : Program) (Θ : Tab) (ops : Array Oper) (K : St → Prop) : List Oper → St → Prop
  | [], s => K s
  | op :: r, s => match op.guard with
    | none => vOp P Θ op.op s fun v o' nk' => vOps P Θ ops K r { sl := pt s.sl op.dst v, o := o', nk := nk' }
    | some (j, want) => ∃ c v', GC (gsl ops s j) want c ∧ (c = true → pOp P Θ op.op s v') ∧ vOps P Θ ops K r { sl := pt s.sl op.dst (cnd c v'), o := s.o, nk := s.nk }

section
variable {P : Program} {Θ : Tab} {n k0 : Nat} {Q : Exit → St → Prop}

theorem upon_of_eff {o : Oper} {a : Act} {next : Act → World → Prop} {Q : Exit → Act → World → Prop} {R : Value → World → Prop} {r : Result Next} (h : Eff P R r) (hn : ∀ v w', R v w' → next (a.put o.dst v) w') : o.upon P a next Q r := by
  unfold Eff at h
  split at h
  · exact hn _ _ h
  · exact hn _ _ h
  · refine h.mono ?_
    rintro e w'' ⟨v, rfl, hR⟩
    exact hn _ _ hR
  · exact h.mono hn
  · exact h.elim

theorem op_step {E : Ent} {s : St} {a : Act} {w : World} (hΘ : TabOk P Θ) {o : Oper} {next : Act → World → Prop} {Q : Exit → Act → World → Prop} {K : SV → (Nat → Option AO) → Nat → Prop} (hr : Rel E s a w) (hd : dstOk E.n o.dst = true)
    (h : vOp P Θ o.op s K) (hn : ∀ v o' nk' a' w', K v o' nk' → Rel E { sl := pt s.sl o.dst v, o := o', nk := nk' } a' w' → next a' w') : o.wp P a w next Q := by
  obtain ⟨S, γ, hr⟩ := hr
  refine upon_of_eff (vOp_sound hΘ hr.fr h) ?_
  rintro u w' ⟨v, o', nk', S', γ', hK, h1, h2, h3, h4⟩
  exact hn v o' nk' _ _ hK ⟨S', γ', hr.put hd h1 h2 h3 h4⟩

theorem guard_yield {E : Ent} {s : St} {a : Act} {w : World} {ops : Array Oper} {j : Nat} {want c : Bool} (hr : Rel E s a w) (h : GC (gsl ops s j) want c) : (yielded ops a.tmps j == some want) = c := by
  obtain ⟨S, γ, hr⟩ := hr
  have key : ∀ b, gsl ops s j = .d (.bool b) → yielded ops a.tmps j = some b := by
    intro b h
    unfold gsl at h
    unfold yielded
    split at h
    · rename_i d hd
      rw [hd]
      have h1 := hr.sl d
      rw [h] at h1
      generalize hu : a.tmps.getD d undef = u at h1
      cases h1 with
      | d _ _ hrd => cases hrd with
        | bool =>
          cases ht : a.tmps[d]? with
          | none => simp [ht, undef] at hu
          | some v => simp [ht] at hu; simp [ht, hu]
    · cases h
  have key0 : gsl ops s j = .tup [] → yielded ops a.tmps j = none := by
    intro h
    unfold gsl at h
    unfold yielded
    split at h
    · rename_i d hd
      rw [hd]
      have h1 := hr.sl d
      rw [h] at h1
      generalize hu : a.tmps.getD d undef = u at h1
      cases h1 with
      | tup xs vs hv hr' =>
        cases ht : a.tmps[d]? with
        | none => simp [ht]
        | some v => simp [ht] at hu; simp [ht, hu]
    · cases h
  rcases h with ⟨b, h1, rfl⟩ | ⟨c0, b, h1, rfl⟩
  · rw [key b h1]
    cases b <;> cases want <;> rfl
  · cases c0 with
    | true =>
      rw [key b h1]
      cases b <;> cases want <;> rfl
    | false =>
      rw [key0 h1]
      cases b <;> cases want <;> rfl

/-- A guarded operation, seen by the machine. -/
theorem g_step {E : Ent} {s : St} {a : Act} {w : World} (hΘ : TabOk P Θ) {ops : Array Oper} {o : Oper} {next : Act → World → Prop} {Q : Exit → Act → World → Prop} {v : SV} (hr : Rel E s a w) (hd : dstOk E.n o.dst = true)
    (h : gOp P Θ ops o s v) (hn : ∀ a' w', Rel E { sl := pt s.sl o.dst v, o := s.o, nk := s.nk } a' w' → next a' w') :
    if Region.wanted o (yielded ops a.tmps) then o.wp P a w next Q else next (a.put o.dst undef) w := by
  unfold gOp at h
  unfold Region.wanted
  split at h
  · rename_i hg
    rw [hg]
    simp only [if_true]
    refine op_step hΘ hr hd h ?_
    rintro v' o' nk' a' w' ⟨rfl, rfl, rfl⟩ hr'
    exact hn a' w' hr'
  · rename_i j want hg
    rw [hg]
    obtain ⟨c, v', h1, h2, rfl⟩ := h
    have hy := guard_yield hr h1
    simp only [hy]
    cases c with
    | true =>
      rw [if_pos rfl]
      refine op_step hΘ hr hd (h2 rfl) ?_
      rintro v' o' nk' a' w' ⟨rfl, rfl, rfl⟩ hr'
      exact hn a' w' hr'
    | false =>
      rw [if_neg (by simp)]
      obtain ⟨S, γ, hr⟩ := hr
      exact hn _ _ ⟨S, γ, hr.put hd hr.sto (Tr.refl _ _ _ _ _) (.tup [] [] rfl (by simp)) trivial⟩

theorem vOps_sound {E : Ent} (hΘ : TabOk P Θ) {ops : Array Oper} {K : St → Prop} {Q : Exit → Act → World → Prop} (hq : ∀ s a w, K s → Rel E s a w → Q .normal a w) :
    ∀ (l : List Oper) (s : St) (a : Act) (w : World), (l.all fun o => dstOk E.n o.dst) = true → Rel E s a w → vOps P Θ ops K l s → wpList P ops Q l a w
  | [], s, a, w, _, hr, h => hq s a w h hr
  | o :: r, s, a, w, hd, hr, h => by
    simp only [List.all_cons, Bool.and_eq_true] at hd
    refine wpList_step fun K' hK' => ?_
    unfold vOps at h
    split at h
    · rename_i hg
      simp only [Region.wanted, hg, if_true]
      refine op_step hΘ hr hd.1 h ?_
      intro v o' nk' a' w' h1 h2
      exact hK' a' w' (vOps_sound hΘ hq r _ a' w' hd.2 h2 h1)
    · rename_i j want hg
      obtain ⟨c, v', h1, h2, h3⟩ := h
      have hgo : gOp P Θ ops o s (cnd c v') := by
        unfold gOp
        rw [hg]
        exact ⟨c, v', h1, h2, rfl⟩
      exact g_step hΘ hr hd.1 hgo fun a' w' h4 => hK' a' w' (vOps_sound hΘ hq r _ a' w' hd.2 h4 h3)

theorem WP.region (hΘ : TabOk P Θ) {s : St} {id : Nat} {ops : Array Oper} (hd : (ops.toList.all fun o => dstOk n o.dst) = true) (h : vOps P Θ ops (Q .normal) ops.toList s) : WP P n k0 (.region id ops false) s Q := by
  intro E a w h1 h2 h3
  refine wp_region_list ?_
  exact vOps_sound hΘ (fun s a w hk hr => ⟨s, hr, hk⟩) ops.toList s a w (by rw [h1]; exact hd) h3 h

attribute [irreducible] cnd
theorem WP.cond {s : St} {x : Operand} {c d : Code} {b : Bool} (hx : ev s.sl x = .d (.bool b)) (ht : b = true → WP P n k0 c s Q) (hf : b = false → WP P n k0 d s Q) : WP P n k0 (.cond x c d) s Q := by
  intro E a w h1 h2 h3
  have hv : a.eval x = .bool b := by
    obtain ⟨S, γ, hr⟩ := h3
    have hr := hr.fr.ev x
    rw [hx] at hr
    generalize a.eval x = u at hr
    cases hr with
    | d _ _ hrd => cases hrd with
      | bool => rfl
  exact wp_cond_split hv (fun hb => ht hb E a w h1 h2 h3) (fun hb => hf hb E a w h1 h2 h3)
end
end Go.Proofs.YtpkcbdhjnnnkbaaGreat.Abs

/- Bodies of functions; drawn regions. -/
set_option linter.unusedVariables false
set_option linter.unusedSimpArgs false
namespace Go.Proofs.YtpkcbdhjnnnkbaaGreat.Abs
open Go

def resOf (ts : List Nat) (s : St) : SV :=
  match ts with
  | [t] => s.sl t
  | ts => .tup (ts.map s.sl)
/-- What a body comes to. -/
def retQ (ts : List Nat) (Q : SV → (Nat → Option AO) → Nat → Prop) : Exit → St → Prop
  | .normal, s => Q (resOf ts s) s.o s.nk
  | .ret, s => Q (resOf ts s) s.o s.nk
  | _, _ => False

def slots (args : List SV) : Nat → SV := fun u => args.getD u .any

structure FnOk (P : Program) (f : FuncId) (n : Nat) (ts : List Nat) (c : Code) : Prop where
  mk ::
  out : ∃ fn, P.funcs[f]? = some fn ∧ fn.body = some c ∧ (fn.name == "runtime.NumGoroutine") = false ∧ fn.results.toList = ts.map ResultVar.tmp ∧ fn.ntmps = n

theorem run_mapM_ok {P : Program} {w : World} {α β : Type} {f : α → Sem β} {g : α → β} : ∀ (l : List α), (∀ x ∈ l, (f x).run P w = .ok (g x) w) → (l.mapM f).run P w = .ok (l.map g) w
  | [], _ => by simp
  | x :: l, h => by
    rw [List.mapM_cons]
    simp [h x (by simp), run_mapM_ok l (fun y hy => h y (by simp [hy]))]

def resV (tmps : Array Value) : List Nat → Value
  | [t] => tmps.getD t undef
  | ts => .tuple (ts.map fun t => tmps.getD t undef).toArray
theorem run_results {P : Program} {w : World} {fn : Func} {ts : List Nat} (h : fn.results.toList = ts.map ResultVar.tmp) (tmps : Array Value) :
    (results fn tmps).run P w = .ok (resV tmps ts) w := by
  have hr : fn.results = (ts.map ResultVar.tmp).toArray := by apply Array.ext'; simpa using h
  unfold results
  rw [hr, List.mapM_toArray]
  have := run_mapM_ok (P := P) (w := w) (f := fun x => (match x with | .tmp t => pure (tmps.getD t undef) | .cell a t => do loadVar t (← asAddr (tmps.getD a undef)) : Sem Value)) (g := fun x => match x with | .tmp t => tmps.getD t undef | .cell a t => undef) (ts.map ResultVar.tmp) (fun x hx => by
    obtain ⟨t, _, rfl⟩ := List.mem_map.1 hx
    simp)
  simp only [Sem.run_bind, Sem.run_map]
  refine Eq.trans (congrArg (fun r => Result.andThen (Result.andThen r _) _) this) ?_
  match ts with
  | [] => simp [resV]
  | [t] => simp [resV]
  | t :: u :: r => simp [resV]

theorem Spec.of_body {P : Program} {f : FuncId} {n : Nat} {ts : List Nat} {c : Code} {args : List SV} {o : Nat → Option AO} {nk : Nat} {Q : SV → (Nat → Option AO) → Nat → Prop} (hf : FnOk P f n ts c) (hn : args.length ≤ n)
    (h : WP P n nk c { sl := slots args, o := o, nk := nk } (retQ ts Q)) : Spec P f args o nk Q := by
  intro w S γ vs h1 h2 h3 h4
  obtain ⟨fn, e1, e2, e3, e4, e5⟩ := hf.out
  have hcf : (callFunc f vs.toArray).run P w = .ok (.enter f vs.toArray) w := by
    simp only [beq_eq_false_iff_ne, ne_eq] at e3
    simp [callFunc, e1, e2, e3]
  unfold Does
  rw [hcf]
  refine calls_of_wp e1 e2 ?_
  have hrel : Rel { w := w, S := S, γ := γ, o := o, nk := nk, n := n } { sl := slots args, o := o, nk := nk } { tmps := vs.toArray ++ Array.replicate (fn.ntmps - vs.toArray.size) undef, defers := [] } w := by
    refine ⟨S, γ, h1, Tr.refl _ _ _ _ _, fun u => ?_, fun u => ?_, rfl, by simp; omega⟩
    · simp only [slots]
      rw [List.getD_eq_getElem?_getD]
      cases hu : args[u]? with
      | none => exact .any _
      | some c =>
        have hlt : u < args.length := (List.getElem?_eq_some_iff.1 hu).1
        have hv : vs[u]? = some (vs[u]'(by omega)) := List.getElem?_eq_getElem (by omega)
        have : (vs.toArray ++ Array.replicate (fn.ntmps - vs.toArray.size) undef).getD u undef = vs[u]'(by omega) := by
          simp [Array.getElem?_append, show u < vs.length by omega]
        show SR w S γ o c ((vs.toArray ++ Array.replicate (fn.ntmps - vs.toArray.size) undef).getD u undef)
        rw [this]
        exact h3 u c _ hu hv
    · simp only [slots]
      rw [List.getD_eq_getElem?_getD]
      cases hu : args[u]? with
      | none => trivial
      | some c => exact lts_get h4 u c hu
  refine Go.wp_mono (h _ _ w rfl rfl hrel) ?_
  rintro e a' w' ⟨s', ⟨S', γ', hr⟩, q⟩
  have key : Q (resOf ts s') s'.o s'.nk → a'.defers = [] ∧ ∃ v, (results fn a'.tmps).run P w' = .ok v w' ∧ ∃ u, Ending.returned v = .returned u ∧ Post P w S γ o nk Q u w' := by
    intro q
    refine ⟨hr.df, _, run_results e4 _, _, rfl, resOf ts s', s'.o, s'.nk, S', γ', q, hr.sto, hr.tr, ?_, ?_⟩
    · match ts with
      | [] => exact .tup [] [] rfl (by simp)
      | [t] => exact hr.sl t
      | t :: u :: r =>
        refine .tup _ _ (by simp) fun i c v hc hv => ?_
        rw [List.getElem?_map] at hc hv
        obtain ⟨x, hx, rfl⟩ := Option.map_eq_some_iff.1 hc
        rw [hx] at hv
        simp only [Option.map_some, Option.some.injEq] at hv
        subst hv
        exact hr.sl x
    · match ts with
      | [] => exact lts_of (by simp)
      | [t] => exact hr.slt t
      | t :: u :: r =>
        refine lts_of fun i c hc => ?_
        rw [List.getElem?_map] at hc
        obtain ⟨x, hx, rfl⟩ := Option.map_eq_some_iff.1 hc
        exact hr.slt x
  cases e with
  | normal => exact key q
  | ret => exact key q
  | _ => exact q.elim
end Go.Proofs.YtpkcbdhjnnnkbaaGreat.Abs

/- Drawn regions: whatever order is drawn, the same comes out. -/
set_option linter.unusedVariables false
set_option linter.unusedSimpArgs false
namespace Go.Proofs.YtpkcbdhjnnnkbaaGreat.Abs
open Go

theorem vOp0_congr {P : Program} {Θ : Tab} {op : Op} {s s' : St} {K : SV → (Nat → Option AO) → Nat → Prop} (he : ∀ x ∈ op.operands, ev s.sl x = ev s'.sl x) (ho : s.o = s'.o) (hk : s.nk = s'.nk) (h : vOp0 P Θ op s K) : vOp0 P Θ op s' K := by
  obtain ⟨sl, o, nk⟩ := s
  obtain ⟨sl', o', nk'⟩ := s'
  simp only at he ho hk
  subst ho; subst hk
  have hl : ∀ (xs : Array Operand), (∀ x ∈ xs, ev sl x = ev sl' x) → xs.toList.map (ev sl) = xs.toList.map (ev sl') := fun xs hx => List.map_congr_left fun x hm => hx x (by simpa using hm)
  have hp : ∀ (ps : Array (Nat × Operand)), (∀ x ∈ (ps.toList.map (·.2)).toArray, ev sl x = ev sl' x) → (ps.toList.map fun p => (p.1, ev sl p.2)) = ps.toList.map fun p => (p.1, ev sl' p.2) := fun ps hx =>
    List.map_congr_left fun p hm => by rw [hx p.2 (by simp; exact ⟨p.1, by simpa using hm⟩)]
  have hm : ∀ (x : Option Operand), (∀ y ∈ x.toArray, ev sl y = ev sl' y) → x.map (ev sl) = x.map (ev sl') := fun x hx => by
    cases x with
    | none => rfl
    | some x => simp [hx x (by simp)]
  cases op with
  | move x => simpa only [vOp0, he x (by simp [Op.operands])] using h
  | assign x => simpa only [vOp0, he x (by simp [Op.operands])] using h
  | pick c x y => simpa only [vOp0, he c (by simp [Op.operands]), he x (by simp [Op.operands]), he y (by simp [Op.operands])] using h
  | alloc e => exact h
  | box e x => simpa only [vOp0, he x (by simp [Op.operands])] using h
  | build t ps => simpa only [vOp0, hp ps he] using h
  | buildSlice t n ps => simpa only [vOp0, hp ps he] using h
  | load t x => simpa only [vOp0, he x (by simp [Op.operands])] using h
  | store t x y => simpa only [vOp0, he x (by simp [Op.operands]), he y (by simp [Op.operands])] using h
  | nilCheck x => simpa only [vOp0, he x (by simp [Op.operands])] using h
  | binOp b t x y u => simpa only [vOp0, he x (by simp [Op.operands]), he y (by simp [Op.operands])] using h
  | unOp b t x => simpa only [vOp0, he x (by simp [Op.operands])] using h
  | convert a b x => simpa only [vOp0, he x (by simp [Op.operands])] using h
  | makeFunc fn fs cs =>
    have h1 := hl fs fun x hx => he x (by simp [Op.operands, hx])
    have h2 := hl cs fun x hx => he x (by simp [Op.operands, hx])
    simpa only [vOp0, h1, h2] using h
  | slice t x lo hi mx =>
    have h1 := hm lo fun y hy => he y (by simp only [Op.operands, Array.mem_append]; exact .inl (.inl (.inr hy)))
    have h2 := hm hi fun y hy => he y (by simp only [Op.operands, Array.mem_append]; exact .inl (.inr hy))
    have h3 := hm mx fun y hy => he y (by simp only [Op.operands, Array.mem_append]; exact .inr hy)
    simpa only [vOp0, h1, h2, h3, he x (by simp [Op.operands])] using h
  | fieldAddr t x f => simpa only [vOp0, he x (by simp [Op.operands])] using h
  | field t x f => simpa only [vOp0, he x (by simp [Op.operands])] using h
  | indexAddr t x y => simpa only [vOp0, he x (by simp [Op.operands]), he y (by simp [Op.operands])] using h
  | index t x y => simpa only [vOp0, he x (by simp [Op.operands]), he y (by simp [Op.operands])] using h
  | extract x q => simpa only [vOp0, he x (by simp [Op.operands])] using h
  | call c =>
    obtain ⟨ce, ar, ts⟩ := c
    cases ce with
    | value f =>
      have h1 := he f (by simp [Op.operands, Call.operands])
      have h2 := hl ar fun x hx => he x (by simp [Op.operands, Call.operands, hx])
      simpa only [vOp0, h1, h2] using h
    | invoke r m => simp [vOp0] at h
    | builtin b =>
      have h2 : ∀ x ∈ ar.toList, ev sl x = ev sl' x := fun x hx => he x (by simp [Op.operands, Call.operands]; simpa using hx)
      simp only [vOp0] at h ⊢
      unfold blOp at h ⊢
      split at h
      · rename_i x hx
        rw [hx] at h2
        simpa only [h2 x (by simp)] using h
      · rename_i x y hx
        rw [hx] at h2
        simpa only [h2 x (by simp), h2 y (by simp)] using h
      · rename_i x y hx
        rw [hx] at h2
        simpa only [h2 x (by simp), h2 y (by simp)] using h
      · rename_i x y hx
        rw [hx] at h2
        simpa only [h2 x (by simp), h2 y (by simp)] using h
      · exact h.elim
  | range t x => simpa only [vOp0, he x (by simp [Op.operands])] using h
  | next x b => simpa only [vOp0, he x (by simp [Op.operands])] using h
  | makeMap t r => exact h
  | lookup t m x b => simpa only [vOp0, he m (by simp [Op.operands]), he x (by simp [Op.operands])] using h
  | mapUpdate t m x y => simpa only [vOp0, he m (by simp [Op.operands]), he x (by simp [Op.operands]), he y (by simp [Op.operands])] using h
  | _ => exact h.elim

theorem vOp_congr {P : Program} {Θ : Tab} {op : Op} {s s' : St} {K : SV → (Nat → Option AO) → Nat → Prop} (he : ∀ x ∈ op.operands, ev s.sl x = ev s'.sl x) (ho : s.o = s'.o) (hk : s.nk = s'.nk) (h : vOp P Θ op s K) : vOp P Θ op s' K := by
  rcases h with h | ⟨v, h, hK⟩ | ⟨r, h, hK⟩
  · exact .inl (vOp0_congr he ho hk h)
  · exact .inr (.inl ⟨v, by rw [← nQ_congr he, ← ho]; exact h, by rw [← ho, ← hk]; exact hK⟩)
  · exact .inr (.inr ⟨r, by rw [← nW_congr he, ← ho, ← hk]; exact h, by rw [← ho]; exact hK⟩)

def onsOf (o : Oper) : List Nat := (o.after.toList.filter fun e => Region.binds .any e).map (·.on)

def flowAt (ops : Array Oper) (o p : Oper) (i j : Nat) : Bool :=
  match p.dst with
  | none => true
  | some d => (i == j || !(o.dst == some d)) && (!(o.looksAt ops).contains d || (decide (j < i) && (onsOf o).contains j) || (decide (i < j) && (onsOf p).contains i))
/-- Each operation's writers stand by its side in the order, and none is written twice. -/
def flowOk (ops : Array Oper) : Bool :=
  ops.toList.zipIdx.all fun o => (onsOf o.1).all (fun j => decide (j < o.2)) && ops.toList.zipIdx.all fun p => flowAt ops o.1 p.1 o.2 p.2

theorem flow_spec {ops : Array Oper} (h : flowOk ops = true) {i : Nat} {o : Oper} (hi : ops[i]? = some o) : (∀ j ∈ onsOf o, j < i) ∧ ∀ (j : Nat) (p : Oper), ops[j]? = some p → flowAt ops o p i j = true := by
  have hmem : ∀ {j : Nat} {p : Oper}, ops[j]? = some p → (p, j) ∈ ops.toList.zipIdx := fun {j p} hj => by
    rw [List.mem_zipIdx_iff_getElem?]
    simpa using hj
  have h1 := List.all_eq_true.1 h _ (hmem hi)
  simp only [Bool.and_eq_true] at h1
  refine ⟨fun j hj => ?_, fun j p hj => List.all_eq_true.1 h1.2 _ (hmem hj)⟩
  have := List.all_eq_true.1 h1.1 j hj
  simpa using this

def dOps (P : Program) (Θ : Tab) (ops : Array Oper) (K : St → Prop) : List Oper → St → Prop
  | [], s => K s
  | o :: r, s => ∃ v, gOp P Θ ops o s v ∧ dOps P Θ ops K r { sl := pt s.sl o.dst v, o := s.o, nk := s.nk }

def slAt (sl : Nat → SV) : List (Option Nat × SV) → Nat → SV
  | [] => sl
  | p :: r => slAt (pt sl p.1 p.2) r

theorem slAt_miss {u : Nat} : ∀ (q : List (Option Nat × SV)) (sl : Nat → SV), (∀ v, (some u, v) ∉ q) → slAt sl q u = sl u
  | [], sl, _ => rfl
  | (d, v) :: q, sl, h => by
    rw [slAt, slAt_miss q _ fun v hv => h v (by simp [hv])]
    cases d with
    | none => rfl
    | some d =>
      refine upd_ne _ _ fun e => h v ?_
      simp [e]
theorem slAt_hit {u : Nat} {v : SV} : ∀ (q : List (Option Nat × SV)) (sl : Nat → SV) (j : Nat), q[j]? = some (some u, v) → (∀ (i : Nat) (x : SV), q[i]? = some (some u, x) → i = j) → slAt sl q u = v
  | (d, x) :: q, sl, 0, h, hu => by
    simp only [List.getElem?_cons_zero, Option.some.injEq, Prod.mk.injEq] at h
    obtain ⟨rfl, rfl⟩ := h
    rw [slAt, slAt_miss q]
    · exact upd_same _ _ _
    · intro y hy
      obtain ⟨i, hi⟩ := List.getElem?_of_mem hy
      have := hu (i + 1) y (by simpa using hi)
      omega
  | (d, x) :: q, sl, j + 1, h, hu => by
    rw [slAt]
    refine slAt_hit q _ j (by simpa using h) fun i y hi => ?_
    have := hu (i + 1) y (by simpa using hi)
    omega

theorem dOps_spec {P : Program} {Θ : Tab} {ops : Array Oper} {K : St → Prop} : ∀ (l : List Oper) (s : St), dOps P Θ ops K l s →
    ∃ vs : List SV, vs.length = l.length ∧ (∀ (i : Nat) (o : Oper) (v : SV), l[i]? = some o → vs[i]? = some v → gOp P Θ ops o { sl := slAt s.sl (((l.map (·.dst)).zip vs).take i), o := s.o, nk := s.nk } v) ∧
      K { sl := slAt s.sl ((l.map (·.dst)).zip vs), o := s.o, nk := s.nk }
  | [], s, h => ⟨[], rfl, by simp, h⟩
  | o :: r, s, h => by
    obtain ⟨v, h1, h2⟩ := h
    obtain ⟨vs, h3, h4, h5⟩ := dOps_spec r _ h2
    refine ⟨v :: vs, by simp [h3], fun i p x hp hx => ?_, h5⟩
    cases i with
    | zero =>
      simp only [List.getElem?_cons_zero, Option.some.injEq] at hp hx
      subst hp; subst hx
      exact h1
    | succ i => exact h4 i p x (by simpa using hp) (by simpa using hx)

theorem gOp_congr {P : Program} {Θ : Tab} {ops : Array Oper} {o : Oper} {s s' : St} {v : SV} (he : ∀ u ∈ o.looksAt ops, s.sl u = s'.sl u) (ho : s.o = s'.o) (hk : s.nk = s'.nk) (h : gOp P Θ ops o s v) : gOp P Θ ops o s' v := by
  have hev : ∀ x ∈ o.op.operands, ev s.sl x = ev s'.sl x := fun x hx => by
    cases x with
    | tmp t =>
      refine he t ?_
      simp only [Oper.looksAt, List.mem_append, List.mem_filterMap]
      exact .inl ⟨.tmp t, by simpa using hx, rfl⟩
    | _ => rfl
  have hp : ∀ v, pOp P Θ o.op s v → pOp P Θ o.op s' v := fun v hv => by
    have := vOp_congr hev ho hk hv
    unfold pOp
    rw [← ho, ← hk]
    exact this
  unfold gOp at h ⊢
  split at h
  · rename_i hg
    exact hp v h
  · rename_i j want hg
    obtain ⟨c, v', h1, h2, h3⟩ := h
    have hgs : gsl ops s' j = gsl ops s j := by
      unfold gsl
      split
      · rename_i d hd
        refine (he d ?_).symm
        simp only [Oper.looksAt, List.mem_append]
        right
        rw [hg]
        simp [hd]
      · rfl
    exact ⟨c, v', by rw [hgs]; exact h1, fun hb => hp _ (h2 hb), h3⟩

/-- Operations that are not listed yet. -/
def unl (listed : Array Bool) : Nat → Nat
  | 0 => 0
  | n + 1 => unl listed n + (if listed.getD n true = false then 1 else 0)
theorem unl_set {listed : Array Bool} {i : Nat} (hi : listed.getD i true = false) : ∀ n, unl (listed.setIfInBounds i true) n + (if i < n then 1 else 0) = unl listed n
  | 0 => by simp [unl]
  | n + 1 => by
    have ih := unl_set hi n
    have hlt : i < listed.size := by
      rcases Nat.lt_or_ge i listed.size with h' | h'
      · exact h'
      · simp [Array.getElem?_eq_none h'] at hi
    simp only [unl]
    by_cases hn : n = i
    · subst hn
      rw [hi]
      simp only [Nat.lt_irrefl, if_false, Nat.add_zero] at ih
      rw [ih]
      simp [hlt]
    · rw [getD_set_ne true (Ne.symm hn)]
      by_cases hin : i < n
      · rw [if_pos hin] at ih
        rw [if_pos (show i < n + 1 by omega)]
        omega
      · rw [if_neg hin] at ih
        rw [if_neg (show ¬ i < n + 1 by omega)]
        omega
theorem unl_zero {listed : Array Bool} : ∀ n, unl listed n = 0 → ∀ i, i < n → listed.getD i true = true
  | 0, _, i, hi => by omega
  | n + 1, h, i, hi => by
    simp only [unl] at h
    by_cases hn : i = n
    · subst hn
      by_cases hl : listed.getD i true = true
      · exact hl
      · simp only [Bool.not_eq_true] at hl
        rw [hl] at h
        simp at h
    · exact unl_zero n (by omega) i (by omega)

/-- The slots once the listed operations have run. -/
noncomputable def slL (sl : Nat → SV) (prs : List (Option Nat × SV)) (listed : Array Bool) : Nat → SV := fun u =>
  open Classical in if h : ∃ v, ∃ j, prs[j]? = some (some u, v) ∧ listed.getD j false = true then Classical.choose h else sl u
section
variable {sl : Nat → SV} {prs : List (Option Nat × SV)} {listed : Array Bool}
def Uniq (prs : List (Option Nat × SV)) : Prop := ∀ (i j u : Nat) (v x : SV), prs[i]? = some (some u, v) → prs[j]? = some (some u, x) → i = j
theorem slL_hit (hu : Uniq prs) {u j : Nat} {v : SV} (h : prs[j]? = some (some u, v)) (hl : listed.getD j false = true) : slL sl prs listed u = v := by
  have hex : ∃ v, ∃ j, prs[j]? = some (some u, v) ∧ listed.getD j false = true := ⟨v, j, h, hl⟩
  unfold slL
  rw [dif_pos hex]
  obtain ⟨i, h1, h2⟩ := Classical.choose_spec hex
  have := hu i j u _ _ h1 h
  subst this
  rw [h1] at h
  simp only [Option.some.injEq, Prod.mk.injEq, true_and] at h
  exact h
theorem slL_miss {u : Nat} (h : ∀ (j : Nat) (v : SV), prs[j]? = some (some u, v) → listed.getD j false = true → False) : slL sl prs listed u = sl u := by
  unfold slL
  rw [dif_neg]
  rintro ⟨v, j, h1, h2⟩
  exact h j v h1 h2
end

section
variable {P : Program} {Θ : Tab} {n k0 : Nat} {Q : Exit → St → Prop}

theorem WP.drawn (hΘ : TabOk P Θ) (hm : P.follows .mixedOrders = true) {s : St} {id : Nat} {ops : Array Oper} (hd : (ops.toList.all fun o => dstOk n o.dst) = true) (hflow : flowOk ops = true)
    (h : dOps P Θ ops (Q .normal) ops.toList s) : WP P n k0 (.region id ops true) s Q := by
  intro E a w e1 e2 hrel
  refine wp_region_any hm ?_
  obtain ⟨vs, hvl, hop, hfin⟩ := dOps_spec _ _ h
  generalize hprs : (ops.toList.map (·.dst)).zip vs = prs at hop hfin
  have hget : ∀ (j : Nat) (o : Oper), ops[j]? = some o → ∃ v, vs[j]? = some v ∧ prs[j]? = some (o.dst, v) := fun j o hj => by
    have hlt : j < ops.size := (Array.getElem?_eq_some_iff.1 hj).1
    have hv : vs[j]? = some (vs[j]'(by rw [hvl]; simpa using hlt)) := List.getElem?_eq_getElem _
    refine ⟨_, hv, ?_⟩
    rw [← hprs, List.getElem?_zip_eq_some]
    refine ⟨?_, hv⟩
    rw [List.getElem?_map]
    have : ops.toList[j]? = some o := by simpa using hj
    rw [this]; rfl
  have hback : ∀ (j : Nat) (d : Option Nat) (v : SV), prs[j]? = some (d, v) → ∃ o, ops[j]? = some o ∧ o.dst = d ∧ vs[j]? = some v := fun j d v hj => by
    rw [← hprs, List.getElem?_zip_eq_some, List.getElem?_map] at hj
    obtain ⟨h1, h2⟩ := hj
    obtain ⟨o, ho, rfl⟩ := Option.map_eq_some_iff.1 h1
    exact ⟨o, by simpa using ho, rfl, h2⟩
  have huniq : Uniq prs := fun i j u v x hi hj => by
    obtain ⟨o, ho, hod, _⟩ := hback i _ v hi
    obtain ⟨p, hp, hpd, _⟩ := hback j _ x hj
    have := (flow_spec hflow ho).2 j p hp
    simp only [flowAt, hpd, Bool.and_eq_true, Bool.or_eq_true, beq_iff_eq] at this
    rcases this.1 with h1 | h1
    · exact h1
    · simp [hod] at h1
  have hons : ∀ {o : Oper} {e : Edge}, e ∈ o.after → Region.binds .any e = true → e.on ∈ onsOf o := fun {o e} he hb => by
    simp only [onsOf, List.mem_map, List.mem_filter]
    exact ⟨e, ⟨by simpa using he, hb⟩, rfl⟩
  have hons' : ∀ {o : Oper} {j : Nat}, j ∈ onsOf o → ∃ e ∈ o.after, Region.binds .any e = true ∧ e.on = j := fun {o j} hj => by
    simp only [onsOf, List.mem_map, List.mem_filter] at hj
    obtain ⟨e, ⟨h1, h2⟩, h3⟩ := hj
    exact ⟨e, by simpa using h1, h2, h3⟩
  -- what an operation that is ready yields
  have hready : ∀ (listed : Array Bool) (i : Nat) (o : Oper) (v : SV), (∀ (j : Nat) (p : Oper), ops[j]? = some p → listed.getD j false = true → ∀ k ∈ onsOf p, listed.getD k false = true) →
      ops[i]? = some o → vs[i]? = some v → listed.getD i true = false → (∀ k ∈ onsOf o, listed.getD k false = true) → gOp P Θ ops o { sl := slL s.sl prs listed, o := s.o, nk := s.nk } v := by
    intro listed i o v hcl ho hv hi hon
    refine gOp_congr (s := { sl := slAt s.sl (prs.take i), o := s.o, nk := s.nk }) (fun u hu => ?_) rfl rfl (hop i o v (by simpa using ho) hv)
    show slAt s.sl (prs.take i) u = slL s.sl prs listed u
    by_cases hex : ∃ (j : Nat) (x : SV), prs[j]? = some (some u, x)
    · obtain ⟨j, x, hj⟩ := hex
      obtain ⟨p, hp, hpd, _⟩ := hback j _ x hj
      have hfl := (flow_spec hflow ho).2 j p hp
      have hlook : (o.looksAt ops).contains u = true := by simpa using hu
      simp only [flowAt, hpd, Bool.and_eq_true, Bool.or_eq_true, beq_iff_eq, hlook, Bool.not_true, Bool.false_eq_true, false_or, decide_eq_true_eq, List.contains_eq_mem] at hfl
      rcases hfl.2 with ⟨h1, h2⟩ | ⟨h1, h2⟩
      · rw [slL_hit huniq hj (hon j h2)]
        refine slAt_hit _ _ j (by rw [List.getElem?_take, if_pos h1]; exact hj) fun k y hk => ?_
        rw [List.getElem?_take] at hk
        split at hk
        · exact huniq k j u y x hk hj
        · cases hk
      · rw [slAt_miss, slL_miss]
        · intro k y hk hl
          have := huniq k j u y x hk hj
          subst this
          have := hcl k p hp hl i h2
          have hif : listed.getD i false = false := by
            rcases Nat.lt_or_ge i listed.size with h' | h'
            · simp [h'] at hi ⊢; exact hi
            · simp [Array.getElem?_eq_none h'] at hi
          rw [hif] at this
          cases this
        · intro y hy
          obtain ⟨k, hk⟩ := List.getElem?_of_mem hy
          rw [List.getElem?_take] at hk
          split at hk
          · have := huniq k j u y x hk hj
            omega
          · cases hk
    · rw [slAt_miss, slL_miss]
      · exact fun k y hk _ => hex ⟨k, y, hk⟩
      · intro y hy
        obtain ⟨k, hk⟩ := List.getElem?_of_mem (List.mem_of_mem_take hy)
        exact hex ⟨k, y, hk⟩
  have hall : ∀ listed : Array Bool, (∀ i, i < ops.size → listed.getD i true = true) → slL s.sl prs listed = slAt s.sl prs ∨ ops.size > listed.size := by
    intro listed hL
    rcases Nat.lt_or_ge listed.size ops.size with h' | h'
    · exact .inr h'
    · left
      funext u
      by_cases hex : ∃ (j : Nat) (x : SV), prs[j]? = some (some u, x)
      · obtain ⟨j, x, hj⟩ := hex
        obtain ⟨p, hp, _, _⟩ := hback j _ x hj
        have hlt : j < ops.size := (Array.getElem?_eq_some_iff.1 hp).1
        rw [slL_hit huniq hj, slAt_hit _ _ j hj fun k y hk => huniq k j u y x hk hj]
        have := hL j hlt
        have hlt' : j < listed.size := by omega
        simp [hlt'] at this ⊢
        exact this
      · rw [slAt_miss, slL_miss]
        · exact fun k y hk _ => hex ⟨k, y, hk⟩
        · intro y hy
          obtain ⟨k, hk⟩ := List.getElem?_of_mem hy
          exact hex ⟨k, y, hk⟩
  -- all orders
  have main : ∀ (fuel : Nat) (listed : Array Bool) (a : Act) (w : World), listed.size = ops.size → unl listed ops.size ≤ fuel →
      (∀ (j : Nat) (p : Oper), ops[j]? = some p → listed.getD j false = true → ∀ k ∈ onsOf p, listed.getD k false = true) →
      Rel E { sl := slL s.sl prs listed, o := s.o, nk := s.nk } a w →
      wpAny P .any ops (fun e a' w' => ∃ s', Rel E s' a' w' ∧ Q e s') fuel listed a w := by
    intro fuel
    induction fuel with
    | zero =>
      intro listed a w hsz hun hcl hr
      have hL := unl_zero ops.size (by omega) (listed := listed)
      refine ⟨?_, _, hr, ?_⟩
      · rw [List.eq_nil_iff_forall_not_mem]
        intro i hi
        rw [mem_ready] at hi
        obtain ⟨h0, o, ho, _⟩ := hi
        have := hL i (Array.getElem?_eq_some_iff.1 ho).1
        rw [this] at h0
        cases h0
      · rcases hall listed hL with h1 | h1
        · rw [h1]; exact hfin
        · omega
    | succ fuel ih =>
      intro listed a w hsz hun hcl hr
      refine ⟨fun hnil => ?_, fun i hi => ?_⟩
      · have hL : ∀ i, i < ops.size → listed.getD i true = true := by
          intro i
          induction i using Nat.strongRecOn with
          | _ i ihi =>
            intro hlt
            by_cases hl : listed.getD i true = true
            · exact hl
            · exfalso
              simp only [Bool.not_eq_true] at hl
              have hmem : i ∈ Region.ready .any ops listed := by
                rw [mem_ready]
                refine ⟨hl, ops[i], by simp [hlt], fun e he hb => ?_⟩
                have hlt2 := (flow_spec hflow (i := i) (o := ops[i]) (by simp [hlt])).1 e.on (hons he hb)
                have := ihi e.on hlt2 (by omega)
                have hlt3 : e.on < listed.size := by omega
                simp [hlt3] at this ⊢
                exact this
              rw [hnil] at hmem
              cases hmem
        refine ⟨_, hr, ?_⟩
        rcases hall listed hL with h1 | h1
        · rw [h1]; exact hfin
        · omega
      · have hi' := hi
        rw [mem_ready] at hi'
        obtain ⟨h0, o, ho, hon⟩ := hi'
        obtain ⟨v, hv, hpv⟩ := hget i o ho
        have hon' : ∀ k ∈ onsOf o, listed.getD k false = true := fun k hk => by
          obtain ⟨e, h1, h2, rfl⟩ := hons' hk
          exact hon e h1 h2
        have hg := hready listed i o v hcl ho hv h0 hon'
        have hdo : dstOk E.n o.dst = true := by
          rw [e1]
          exact List.all_eq_true.1 hd o (by
            have : ops.toList[i]? = some o := by simpa using ho
            exact List.mem_of_getElem? this)
        have hstep := g_step (Q := fun e a' w' => ∃ s', Rel E s' a' w' ∧ Q e s') (next := wpAny P .any ops (fun e a' w' => ∃ s', Rel E s' a' w' ∧ Q e s') fuel (listed.setIfInBounds i true)) hΘ hr hdo hg (fun a' w' hr' => by
          refine ih _ a' w' (by simpa using hsz) ?_ ?_ ?_
          · have := unl_set h0 ops.size
            rw [if_pos (Array.getElem?_eq_some_iff.1 ho).1] at this
            omega
          · intro j p hj hl k hk
            by_cases hji : j = i
            · subst hji
              rw [ho] at hj
              simp only [Option.some.injEq] at hj
              subst hj
              exact getD_set_true (hon' k hk)
            · rw [getD_set_ne false (Ne.symm hji)] at hl
              exact getD_set_true (hcl j p hj hl k hk)
          · have : slL s.sl prs (listed.setIfInBounds i true) = pt (slL s.sl prs listed) o.dst v := by
              have hli : (listed.setIfInBounds i true).getD i false = true := by
                have : i < listed.size := by rw [hsz]; exact (Array.getElem?_eq_some_iff.1 ho).1
                simp [this]
              have hlf : ∀ j, j ≠ i → (listed.setIfInBounds i true).getD j false = listed.getD j false := fun j hj => getD_set_ne false (Ne.symm hj)
              funext u
              by_cases hex : ∃ (j : Nat) (x : SV), prs[j]? = some (some u, x)
              · obtain ⟨j, x, hj⟩ := hex
                by_cases hji : j = i
                · subst hji
                  rw [hj] at hpv
                  simp only [Option.some.injEq, Prod.mk.injEq] at hpv
                  obtain ⟨h1, h2⟩ := hpv
                  rw [slL_hit huniq hj hli, ← h1, h2]
                  exact (upd_same _ _ _).symm
                · have hne : o.dst ≠ some u := fun e => hji (huniq j i u x v hj (by rw [hpv, e]))
                  have hp : pt (slL s.sl prs listed) o.dst v u = slL s.sl prs listed u := by
                    cases hod : o.dst with
                    | none => rfl
                    | some d => exact upd_ne _ _ fun e => hne (by rw [hod, e])
                  rw [hp]
                  by_cases hl : listed.getD j false = true
                  · rw [slL_hit huniq hj hl, slL_hit huniq hj (by rw [hlf j hji]; exact hl)]
                  · rw [slL_miss, slL_miss]
                    · intro k y hk hlk
                      have := huniq k j u y x hk hj
                      subst this
                      exact hl hlk
                    · intro k y hk hlk
                      have := huniq k j u y x hk hj
                      subst this
                      rw [hlf k hji] at hlk
                      exact hl hlk
              · have hne : o.dst ≠ some u := fun e => hex ⟨i, v, by rw [hpv, e]⟩
                have hp : pt (slL s.sl prs listed) o.dst v u = slL s.sl prs listed u := by
                  cases hod : o.dst with
                  | none => rfl
                  | some d => exact upd_ne _ _ fun e => hne (by rw [hod, e])
                rw [hp, slL_miss, slL_miss]
                · exact fun k y hk _ => hex ⟨k, y, hk⟩
                · exact fun k y hk _ => hex ⟨k, y, hk⟩
            rw [this]
            exact hr')
        show wpOp P ops _ i _ a w
        unfold wpOp
        rw [ho]
        simp only
        split
        · rename_i hw
          rw [if_pos hw] at hstep
          exact .inl hstep
        · rename_i hw
          rw [if_neg hw] at hstep
          exact hstep
  refine main ops.size _ a _ (by simp) ?_ ?_ ?_
  · have : ∀ m, unl (Array.replicate ops.size false) m ≤ m := by
      intro m
      induction m with
      | zero => simp [unl]
      | succ m ih => simp only [unl]; split <;> omega
    exact this _
  · intro j p hj hl
    simp only [Array.getD_eq_getD_getElem?, Array.getElem?_replicate] at hl
    split at hl <;> simp at hl
  · obtain ⟨S, γ, hr⟩ := hrel
    obtain ⟨m1, m2⟩ := hr.sto.more (w' := { w with drawn := w.drawn + 1 }) (fun _ => False) (fun _ h => h.elim) rfl rfl rfl (Nat.le_refl _) (fun _ _ => rfl)
    have hsl : slL s.sl prs (Array.replicate ops.size false) = s.sl := by
      funext u
      refine slL_miss fun j v _ hl => ?_
      simp only [Array.getD_eq_getD_getElem?, Array.getElem?_replicate] at hl
      split at hl <;> simp at hl
    rw [hsl]
    exact ⟨_, γ, m1, hr.tr.trans m2, fun u => (hr.sl u).tr hr.sto m2 (hr.slt u), hr.slt, hr.df, hr.nn⟩
end
end Go.Proofs.YtpkcbdhjnnnkbaaGreat.Abs
