/- EntryChecks: called with any entry and any text that hold together at most 1048576 values and letters, the law answers true, and both read afterwards as they read before. -/
import Derived.Test.YtpkcbdhjnnnkbaaGreatMEntryChecks4
import Derived.LoopN
import Derived.Test.YtpkcbdhjnnnkbaaGreatMEntryChecks2
/- A run of the operations that is computed: tries, one operation. -/
set_option linter.unusedVariables false
set_option linter.unusedSimpArgs false
namespace Go.Proofs.YtpkcbdhjnnnkbaaGreat.Abs
open Go

inductive TM (α : Type) where
  | e
  | n (v : Option α) (l r : TM α)
namespace TM
variable {α : Type}
def get : TM α → Nat → Option α
  | .e, _ => none
  | .n v _ _, 0 => v
  | .n _ l r, k + 1 => bif Nat.beq (k % 2) 0 then get l (k / 2) else get r (k / 2)
def seq {β : Type} (t : TM α) (k : TM α → β) : β := match t with
  | .e => k .e
  | .n v l r => k (.n v l r)
theorem seq_eq {β : Type} (t : TM α) (k : TM α → β) : seq t k = k t := by cases t <;> rfl
def put (v : Option α) : Nat → TM α → Nat → TM α
  | 0, t, _ => t
  | _ + 1, .e, 0 => .n v .e .e
  | _ + 1, .n _ l r, 0 => .n v l r
  | d + 1, .e, k + 1 => bif Nat.beq (k % 2) 0 then seq (put v d .e (k / 2)) fun l => .n none l .e else seq (put v d .e (k / 2)) fun r => .n none .e r
  | d + 1, .n u l r, k + 1 => bif Nat.beq (k % 2) 0 then seq (put v d l (k / 2)) fun l => .n u l r else seq (put v d r (k / 2)) fun r => .n u l r
theorem beq_cond {a b : Nat} {β : Type} (x y : β) : (bif Nat.beq a b then x else y) = if a = b then x else y := by
  by_cases h : a = b
  · subst h; simp
  · have : Nat.beq a b = false := by
      cases hb : Nat.beq a b with
      | false => rfl
      | true => exact absurd (Nat.eq_of_beq_eq_true hb) h
    rw [this, if_neg h]; rfl
theorem get_put (v : Option α) : ∀ (d : Nat) (t : TM α) (k i : Nat), k < d → (put v d t k).get i = if i = k then v else t.get i
  | 0, _, _, _, h => by omega
  | d + 1, .e, 0, i, _ => by
    cases i with
    | zero => simp [put, get]
    | succ i => simp only [put, get, beq_cond]; simp
  | d + 1, .n u l r, 0, i, _ => by
    cases i with
    | zero => simp [put, get]
    | succ i => simp only [put, get, beq_cond]; simp
  | d + 1, .e, k + 1, i, h => by
    have ih := get_put v d .e (k / 2)
    simp only [put, beq_cond, seq_eq]
    cases i with
    | zero => split <;> simp [get]
    | succ i =>
      split
      · simp only [get, beq_cond, ih _ (show k / 2 < d by omega)]
        split
        · by_cases hc : i / 2 = k / 2
          · rw [if_pos hc, if_pos (by omega)]
          · rw [if_neg hc, if_neg (by omega)]
        · rw [if_neg (by omega)]
      · simp only [get, beq_cond, ih _ (show k / 2 < d by omega)]
        split
        · rw [if_neg (by omega)]
        · by_cases hc : i / 2 = k / 2
          · rw [if_pos hc, if_pos (by omega)]
          · rw [if_neg hc, if_neg (by omega)]
  | d + 1, .n u l r, k + 1, i, h => by
    have ih1 := get_put v d l (k / 2)
    have ih2 := get_put v d r (k / 2)
    simp only [put, beq_cond, seq_eq]
    cases i with
    | zero => split <;> simp [get]
    | succ i =>
      split
      · simp only [get, beq_cond, ih1 _ (show k / 2 < d by omega)]
        split
        · by_cases hc : i / 2 = k / 2
          · rw [if_pos hc, if_pos (by omega)]
          · rw [if_neg hc, if_neg (by omega)]
        · rw [if_neg (by omega)]
      · simp only [get, beq_cond, ih2 _ (show k / 2 < d by omega)]
        split
        · rw [if_neg (by omega)]
        · by_cases hc : i / 2 = k / 2
          · rw [if_pos hc, if_pos (by omega)]
          · rw [if_neg hc, if_neg (by omega)]
def set (t : TM α) (k : Nat) (v : Option α) : TM α := put v (k + 1) t k
theorem get_set (t : TM α) (k : Nat) (v : Option α) : (t.set k v).get = upd t.get k v := by
  funext i
  unfold set upd
  exact get_put v _ t k i (by omega)
def mapT (f : α → α) : TM α → TM α
  | .e => .e
  | .n v l r => seq (mapT f l) fun l => seq (mapT f r) fun r => match v with
    | none => .n none l r
    | some x => .n (some (f x)) l r
theorem get_mapT (f : α → α) : ∀ (t : TM α) (i : Nat), (mapT f t).get i = (t.get i).map f
  | .e, i => rfl
  | .n v l r, i => by
    have h1 := get_mapT f l
    have h2 := get_mapT f r
    simp only [mapT, seq_eq]
    cases v <;> cases i with
    | zero => rfl
    | succ i => simp only [get, beq_cond]; split <;> simp [h1, h2]
def ofList (l : List α) : TM α := go l 0 .e
where go : List α → Nat → TM α → TM α
  | [], _, t => t
  | x :: l, i, t => go l (i + 1) (t.set i (some x))
theorem ofList_go : ∀ (l : List α) (k : Nat) (t : TM α) (i : Nat), (ofList.go l k t).get i = if k ≤ i ∧ i < k + l.length then l[i - k]? else t.get i
  | [], k, t, i => by simp only [ofList.go, List.length_nil]; rw [if_neg (by omega)]
  | x :: l, k, t, i => by
    simp only [ofList.go, ofList_go l, get_set, upd, List.length_cons]
    by_cases h1 : k + 1 ≤ i ∧ i < k + 1 + l.length
    · rw [if_pos h1, if_pos (by omega), show i - k = (i - (k + 1)) + 1 by omega, List.getElem?_cons_succ]
    · rw [if_neg h1]
      by_cases h2 : i = k
      · subst h2; rw [if_pos rfl, if_pos (by omega)]; simp
      · rw [if_neg h2, if_neg (by omega)]
theorem get_ofList (l : List α) (i : Nat) : (ofList l).get i = l[i]? := by
  unfold ofList
  rw [ofList_go]
  by_cases h : i < l.length
  · rw [if_pos (by omega)]; simp
  · rw [if_neg (by omega), List.getElem?_eq_none (by omega)]; rfl
end TM

/-- A state that is computed. -/
structure XS where
  sl : TM SV
  o : TM AO
  nk : Nat
def XS.st (s : XS) : St := ⟨fun u => (s.sl.get u).getD .any, s.o.get, s.nk⟩
abbrev XR := SV × TM AO × Nat

section
variable (Θ : Tab) (call : Nat → List SV → TM AO → Nat → Option XR)
def xbn (o : Nat → Option AO) (op : BinOp) (t : TypeId) (x y : SV) : Option D :=
  match x, y with
  | .d (.int k a), .d (.int k' b) => match op with
    | .shl => shBin .shl k a b
    | .shr => shBin .shr k a b
    | op => if k = k' then intBin op k a b else none
  | .d (.str a), .d (.str b) => strBin op a b
  | .d (.bool a), .d (.bool b) => match Θ t with
    | some i => match i.k with
      | .bool => match op with
        | .eql => some (.bool (a == b))
        | .neq => some (.bool (!(a == b)))
        | _ => none
      | _ => none
    | none => none
  | .d .nil, .d .nil => match Θ t with
    | some i => match i.k with
      | .slice _ => match op with
        | .eql => some (.bool true)
        | .neq => some (.bool false)
        | _ => none
      | _ => none
    | none => none
  | .d (.sl _ (_ :: _)), .d .nil => match Θ t with
    | some i => match i.k with
      | .slice _ => match op with
        | .eql => some (.bool false)
        | .neq => some (.bool true)
        | _ => none
      | _ => none
    | none => none
  | .d .nilp, .d .nilp => match Θ t with
    | some i => match i.k with
      | .ptr _ => match op with
        | .eql => some (.bool true)
        | .neq => some (.bool false)
        | _ => none
      | _ => none
    | none => none
  | .loc q _, .d .nilp => match Θ t with
    | some i => match i.k with
      | .ptr _ => match o q with
        | some (.box _) => match op with
          | .eql => some (.bool false)
          | .neq => some (.bool true)
          | _ => none
        | _ => none
      | _ => none
    | none => none
  | _, _ => none
theorem xbn_ok {o : Nat → Option AO} {op : BinOp} {t : TypeId} {x y : SV} {r : D} (h : xbn Θ o op t x y = some r) {K : SV → Prop} (hK : K (.d r)) : bnOp Θ o op t x y K := by
  unfold xbn at h
  split at h
  · split at h
    · exact ⟨r, h, hK⟩
    · exact ⟨r, h, hK⟩
    · split at h
      · rename_i he
        unfold bnOp
        simp only
        exact ⟨he, r, h, hK⟩
      · cases h
  · exact ⟨r, h, hK⟩
  all_goals (repeat' (split at h)) <;> first | (cases h; done) | (simp only [Option.some.injEq] at h; subst h; simp_all [bnOp])

def xld (o : Nat → Option AO) (t : TypeId) (x : SV) : Option SV :=
  match Θ t with
  | none => none
  | some i => match x with
    | .loc k f => match o k with
      | some (.box cs) => match i.k.agg with
        | true => match allD ((cs.drop f).take i.sz) with
          | some ds => if ds.length = i.sz ∧ ds.all D.leaf = true then some (.d (.agg ds)) else none
          | none => none
        | false => cs[f]?
      | _ => none
    | .el x => if x.leaf = !i.k.agg ∧ x.width = i.sz then some (.d x) else none
    | _ => none
theorem xld_ok {o : Nat → Option AO} {t : TypeId} {x : SV} {r : SV} (h : xld Θ o t x = some r) {K : SV → Prop} (hK : K r) : ldOp Θ o t x K := by
  unfold xld at h
  split at h
  · cases h
  · rename_i i hi
    refine ⟨i, hi, ?_⟩
    split at h
    · split at h
      · rename_i cs hcs
        refine ⟨cs, hcs, ?_⟩
        split at h
        · rename_i ha
          rw [if_pos ha]
          split at h
          · rename_i ds hds
            split at h
            · rename_i hc
              simp only [Option.some.injEq] at h
              subst h
              exact ⟨ds, hds, hc.1, hc.2, hK⟩
            · cases h
          · cases h
        · rename_i ha
          rw [if_neg (by simp [ha])]
          exact ⟨r, h, hK⟩
      · cases h
    · split at h
      · rename_i hc
        simp only [Option.some.injEq] at h
        subst h
        exact ⟨hc.1, hc.2, hK⟩
      · cases h
    · cases h

def xst (o : TM AO) (t : TypeId) (x y : SV) : Option (TM AO) :=
  match Θ t with
  | none => none
  | some i => match y.cells o.get with
    | none => none
    | some ys => if ys.length = i.sz then match x with
      | .loc k f => match o.get k with
        | some (.box cs) => if f + ys.length ≤ cs.length then some (o.set k (some (.box (cs.take f ++ ys ++ cs.drop (f + ys.length))))) else none
        | _ => none
      | _ => none
      else none
theorem xst_ok {o : TM AO} {t : TypeId} {x y : SV} {r : TM AO} (h : xst Θ o t x y = some r) {K : (Nat → Option AO) → Prop} (hK : K r.get) : stOp Θ o.get t x y K := by
  unfold xst at h
  split at h
  · cases h
  · rename_i i hi
    split at h
    · cases h
    · rename_i ys hys
      split at h
      · rename_i hl
        refine ⟨i, ys, hi, hys, hl, ?_⟩
        split at h
        · split at h
          · rename_i cs hcs
            split at h
            · rename_i hle
              simp only [Option.some.injEq] at h
              subst h
              rw [TM.get_set] at hK
              exact ⟨cs, hcs, hle, hK⟩
            · cases h
          · cases h
        · cases h
      · cases h

def xfd (o : Nat → Option AO) (t : TypeId) (x : SV) (f : Nat) : Option SV :=
  match Θ t with
  | none => none
  | some i => match i.k with
    | .struct fs => match fs[f]? with
      | none => none
      | some (off, ft) => match Θ ft with
        | none => none
        | some j => if j.sz = 0 then none else match x with
          | .loc k g => match o k with
            | some (.box _) => some (.loc k (g + off))
            | _ => none
          | .el x => (x.sub off j.sz j.k.agg).map .el
          | .rel k q g => match o k with
            | some (.row _ _ _) => some (.rel k q (g + off))
            | _ => none
          | _ => none
    | _ => none
theorem xfd_ok {o : Nat → Option AO} {t : TypeId} {x : SV} {f : Nat} {r : SV} (h : xfd Θ o t x f = some r) {K : SV → Prop} (hK : K r) : fdOp Θ o t x f K := by
  unfold xfd at h
  split at h
  · cases h
  · rename_i i hi
    split at h
    · rename_i fs hk
      split at h
      · cases h
      · rename_i off ft hf
        split at h
        · cases h
        · rename_i j hj
          split at h
          · cases h
          · rename_i hz
            refine ⟨i, fs, off, ft, j, hi, hk, hf, hj, hz, ?_⟩
            split at h
            · split at h
              · rename_i cs hcs
                simp only [Option.some.injEq] at h
                subst h
                exact ⟨⟨_, hcs⟩, hK⟩
              · cases h
            · obtain ⟨y, h1, rfl⟩ := Option.map_eq_some_iff.1 h
              exact ⟨y, h1, hK⟩
            · split at h
              · rename_i e z xs hcs
                simp only [Option.some.injEq] at h
                subst h
                exact ⟨⟨_, _, _, hcs⟩, hK⟩
              · cases h
            · cases h
    · cases h

def xfv (t : TypeId) (x : SV) (f : Nat) : Option SV :=
  match Θ t with
  | none => none
  | some i => match i.k with
    | .struct fs => match fs[f]? with
      | none => none
      | some (off, ft) => match Θ ft with
        | none => none
        | some j => match x with
          | .d x => (x.sub off j.sz j.k.agg).map .d
          | _ => none
    | _ => none
theorem xfv_ok {t : TypeId} {x : SV} {f : Nat} {r : SV} (h : xfv Θ t x f = some r) {K : SV → Prop} (hK : K r) : fvOp Θ t x f K := by
  unfold xfv at h
  split at h
  · cases h
  · rename_i i hi
    split at h
    · rename_i fs hk
      split at h
      · cases h
      · rename_i off ft hf
        split at h
        · cases h
        · rename_i j hj
          refine ⟨i, fs, off, ft, j, hi, hk, hf, hj, ?_⟩
          split at h
          · obtain ⟨y, h1, rfl⟩ := Option.map_eq_some_iff.1 h
            exact ⟨y, h1, hK⟩
          · cases h
    · cases h

def xix (o : Nat → Option AO) (t : TypeId) (x ix : SV) : Option SV :=
  match Θ t with
  | none => none
  | some i => match ix with
    | .d (.int _ n) => if n < 0 then none else match i.k with
      | .slice e => match Θ e with
        | none => none
        | some j => match x with
          | .d (.sl z xs) => if z = j.sz then (xs[n.toNat]?).map .el else none
          | .row q => match o q with
            | some (.row _ z xs) => if z = j.sz ∧ n.toNat < xs.length then some (.rel q n.toNat 0) else none
            | _ => none
          | _ => none
      | .arr m e => match Θ e with
        | none => none
        | some j => match x with
          | .loc q f => match o q with
            | some (.box _) => if n.toNat < m then some (.loc q (f + n.toNat * j.sz)) else none
            | _ => none
          | _ => none
      | _ => none
    | _ => none
theorem xix_ok {o : Nat → Option AO} {t : TypeId} {x ix : SV} {r : SV} (h : xix Θ o t x ix = some r) {K : SV → Prop} (hK : K r) : ixOp Θ o t x ix K := by
  unfold xix at h
  split at h
  · cases h
  · rename_i i hi
    split at h
    · rename_i k n
      split at h
      · cases h
      · rename_i hn
        split at h
        · rename_i e hk
          split at h
          · cases h
          · rename_i j hj
            refine ⟨i, e, j, k, n, hi, .inl hk, hj, rfl, by omega, ?_⟩
            split at h
            · split at h
              · rename_i hz
                obtain ⟨y, h1, rfl⟩ := Option.map_eq_some_iff.1 h
                exact ⟨hk, hz, y, h1, hK⟩
              · cases h
            · split at h
              · split at h
                · rename_i hz
                  obtain ⟨rfl, hlt⟩ := hz
                  simp only [Option.some.injEq] at h
                  subst h
                  rename_i hq
                  exact ⟨hk, _, _, hq, hlt, hK⟩
                · cases h
              · cases h
            · cases h
        · rename_i m e hk
          split at h
          · cases h
          · rename_i j hj
            split at h
            · split at h
              · rename_i hq
                split at h
                · rename_i hlt
                  simp only [Option.some.injEq] at h
                  subst h
                  exact ⟨i, e, j, k, n, hi, .inr ⟨m, hk, hlt⟩, hj, rfl, by omega, ⟨m, hk⟩, ⟨_, hq⟩, hK⟩
                · cases h
              · cases h
            · cases h
        · cases h
    · cases h

def xco (o : Nat → Option AO) (src dst : TypeId) (x : SV) : Option SV :=
  match Θ src with
  | none => none
  | some i => match Θ dst with
    | none => none
    | some j => match x with
      | .d (.int _ n) => match j.k with
        | .int k' => some (.d (.int k' (k'.wrap n)))
        | .str => match i.k with
          | .int _ => some (.d (.str (Utf8.encode n).data.toList))
          | _ => none
        | _ => none
      | .d (.str b) => match i.k with
        | .str => match j.k with
          | .str => some (.d (.str b))
          | .slice e => match Θ e with
            | none => none
            | some je => match je.k with
              | .int .u8 => if b.length ≤ 9223372036854775807 then some (.d (.sl 1 (bytesD b))) else none
              | _ => none
          | _ => none
        | _ => none
      | x => match j.k with
        | .str => match i.k with
          | .slice e => match Θ e with
            | none => none
            | some je => match je.k with
              | .int .u8 => match srcOf o 1 x with
                | none => none
                | some ys => (byteL ys).map fun b => .d (.str b)
              | _ => none
          | _ => none
        | _ => none
theorem xco_ok {o : Nat → Option AO} {src dst : TypeId} {x : SV} {r : SV} (h : xco Θ o src dst x = some r) {K : SV → Prop} (hK : K r) : coOp Θ o src dst x K := by
  unfold xco at h
  split at h
  · cases h
  · rename_i i hi
    split at h
    · cases h
    · rename_i j hj
      refine ⟨i, j, hi, hj, ?_⟩
      split at h
      · split at h
        · rename_i k' hk
          simp only [Option.some.injEq] at h; subst h
          simp only [hk]; exact hK
        · rename_i hk
          split at h
          · rename_i q hq
            simp only [Option.some.injEq] at h; subst h
            simp only [hk]; exact ⟨⟨q, hq⟩, hK⟩
          · cases h
        · cases h
      · split at h
        · rename_i hi2
          refine ⟨hi2, ?_⟩
          split at h
          · rename_i hk
            simp only [Option.some.injEq] at h; subst h
            simp only [hk]; exact hK
          · rename_i e hk
            split at h
            · cases h
            · rename_i je he
              split at h
              · rename_i hje
                split at h
                · rename_i hle
                  simp only [Option.some.injEq] at h; subst h
                  simp only [hk]; exact ⟨⟨je, he, hje⟩, hle, hK⟩
                · cases h
              · cases h
          · cases h
        · cases h
      · rename_i x h1 h2
        split at h
        · rename_i hk
          split at h
          · rename_i e hik
            split at h
            · cases h
            · rename_i je he
              split at h
              · rename_i hje
                split at h
                · cases h
                · rename_i ys hys
                  obtain ⟨b, hb, rfl⟩ := Option.map_eq_some_iff.1 h
                  split
                  · rename_i a b; exact absurd rfl (h1 _ _)
                  · rename_i b; exact absurd rfl (h2 _)
                  · exact ⟨hk, ⟨e, je, hik, he, hje⟩, ys, b, hys, hb, hK⟩
              · cases h
          · cases h
        · cases h

theorem mxhi {hi mx : Option SV} (h : mx.isNone = true ∨ hi.isNone = false) : mx = none ∨ hi ≠ none := by cases mx <;> cases hi <;> simp_all
def xsl (o : TM AO) (nk : Nat) (t : TypeId) (x : SV) (lo hi mx : Option SV) : Option XR :=
  match Θ t with
  | none => none
  | some i => match x with
    | .d (.str b) => match i.k, mx with
      | .str, none => match bndO b.length b.length hi with
        | none => none
        | some h => match bndO h 0 lo with
          | none => none
          | some l => some (.d (.str ((b.take h).drop l)), o, nk)
      | _, _ => none
    | .d .nil => match i.k with
      | .slice e => match Θ e, mx, bndO 0 0 hi, bndO 0 0 lo with
        | some _, none, some 0, some 0 => some (.d .nil, o, nk)
        | _, _, _, _ => none
      | _ => none
    | .d (.sl z xs) => match i.k with
      | .slice e => match Θ e with
        | none => none
        | some j => if j.sz = z ∧ (mx.isNone = true ∨ hi.isNone = false) then match bndO xs.length xs.length mx with
          | none => none
          | some m => match bndO m m hi with
            | none => none
            | some h => match bndO h 0 lo with
              | none => none
              | some l => some (.d (.sl z ((xs.take h).drop l)), o, nk)
          else none
      | _ => none
    | .row q => match i.k with
      | .slice e => match Θ e with
        | none => none
        | some j => match o.get q, mx with
          | some (.row e' z xs), none => if e' = e ∧ z = j.sz then match bndO xs.length xs.length hi with
            | none => none
            | some h => match bndO h 0 lo with
              | some 0 => some (.row nk, (o.set q none).set nk (some (.row e j.sz (xs.take h))), nk + 1)
              | _ => none
            else none
          | _, _ => none
      | _ => none
    | _ => none
theorem xsl_ok {o : TM AO} {nk : Nat} {t : TypeId} {x : SV} {lo hi mx : Option SV} {r : SV} {o' : TM AO} {nk' : Nat} (h : xsl Θ o nk t x lo hi mx = some (r, o', nk')) {K : SV → (Nat → Option AO) → Nat → Prop} (hK : K r o'.get nk') : slOp Θ o.get nk t x lo hi mx K := by
  unfold xsl at h
  split at h
  · cases h
  · rename_i i hi'
    split at h
    · split at h
      · rename_i hk
        split at h
        · cases h
        · rename_i m hm
          split at h
          · cases h
          · rename_i l hl
            simp only [Option.some.injEq, Prod.mk.injEq] at h
            obtain ⟨rfl, rfl, rfl⟩ := h
            exact ⟨⟨i, hi', hk⟩, rfl, m, l, hm, hl, hK⟩
      · cases h
    · split at h
      · rename_i e hk
        split at h
        · rename_i j he h1 h2
          simp only [Option.some.injEq, Prod.mk.injEq] at h
          obtain ⟨rfl, rfl, rfl⟩ := h
          exact ⟨⟨i, e, j, hi', hk, he⟩, .inl rfl, rfl, h1, h2, hK⟩
        · cases h
      · cases h
    · split at h
      · rename_i e hk
        split at h
        · cases h
        · rename_i j hj
          split at h
          · rename_i hc
            split at h
            · cases h
            · rename_i m hm
              split at h
              · cases h
              · rename_i p hp
                split at h
                · cases h
                · rename_i l hl
                  simp only [Option.some.injEq, Prod.mk.injEq] at h
                  obtain ⟨rfl, rfl, rfl⟩ := h
                  exact ⟨⟨i, e, j, hi', hk, hj, hc.1⟩, mxhi hc.2, m, p, l, hm, hp, hl, hK⟩
          · cases h
      · cases h
    · split at h
      · rename_i e hk
        split at h
        · cases h
        · rename_i j hj
          split at h
          · rename_i hq
            split at h
            · rename_i hc
              obtain ⟨rfl, rfl⟩ := hc
              split at h
              · cases h
              · rename_i p hp
                split at h
                · rename_i hl
                  simp only [Option.some.injEq, Prod.mk.injEq] at h
                  obtain ⟨rfl, rfl, rfl⟩ := h
                  rw [TM.get_set, TM.get_set] at hK
                  exact ⟨i, _, j, _, p, hi', hk, hj, hq, rfl, hp, hl, hK⟩
                · cases h
            · cases h
          · cases h
      · cases h
    · cases h

def xbs (o : TM AO) (nk : Nat) (t : TypeId) (n : Nat) (parts : List (Nat × SV)) : Option XR :=
  match Θ t with
  | none => none
  | some i => match i.k with
    | .slice e => match Θ e with
      | none => none
      | some j => match j.z with
        | none => none
        | some l => if l.length = j.sz ∧ 0 < j.sz ∧ n * j.sz ≤ 16777216 then match partsL j.sz 0 parts with
          | none => none
          | some xs => if xs.length = n then
              if n = 0 then some (.row nk, o.set nk (some (.row e j.sz xs)), nk + 1) else some (.d (.sl j.sz xs), o, nk)
            else none
          else none
    | _ => none
theorem xbs_ok {o : TM AO} {nk : Nat} {t : TypeId} {n : Nat} {parts : List (Nat × SV)} {r : SV} {o' : TM AO} {nk' : Nat} (h : xbs Θ o nk t n parts = some (r, o', nk')) {K : SV → (Nat → Option AO) → Nat → Prop} (hK : K r o'.get nk') : bsOp Θ o.get nk t n parts K := by
  unfold xbs at h
  split at h
  · cases h
  · rename_i i hi
    split at h
    · rename_i e hk
      split at h
      · cases h
      · rename_i j hj
        split at h
        · cases h
        · rename_i l hz
          split at h
          · rename_i hc
            split at h
            · cases h
            · rename_i xs hxs
              split at h
              · rename_i hn
                refine ⟨i, e, j, l, xs, hi, hk, hj, hz, hc.1, hc.2.1, hxs, hn, hc.2.2, ?_⟩
                split at h
                · rename_i h0
                  simp only [Option.some.injEq, Prod.mk.injEq] at h
                  obtain ⟨rfl, rfl, rfl⟩ := h
                  rw [if_pos h0]; rw [TM.get_set] at hK; exact hK
                · rename_i h0
                  simp only [Option.some.injEq, Prod.mk.injEq] at h
                  obtain ⟨rfl, rfl, rfl⟩ := h
                  rw [if_neg h0]; exact hK
              · cases h
          · cases h
    · cases h

def xbu (t : TypeId) (parts : List (Nat × SV)) : Option SV :=
  match Θ t with
  | none => none
  | some i => match i.k with
    | .struct fs => match i.z with
      | none => none
      | some l => (fillL (placeOf Θ fs) l parts).map fun ds => .d (.agg ds)
    | _ => none
theorem xbu_ok {t : TypeId} {parts : List (Nat × SV)} {r : SV} (h : xbu Θ t parts = some r) {K : SV → Prop} (hK : K r) : buOp Θ t parts K := by
  unfold xbu at h
  split at h
  · cases h
  · rename_i i hi
    split at h
    · rename_i fs hk
      split at h
      · cases h
      · rename_i l hz
        obtain ⟨ds, hd, rfl⟩ := Option.map_eq_some_iff.1 h
        exact ⟨i, fs, l, ds, hi, hk, hz, hd, hK⟩
    · cases h

def isStr : TK → Bool
  | .str => true
  | _ => false
def isSl : TK → Bool
  | .slice _ => true
  | _ => false
theorem isStr_ok {k : TK} (h : isStr k = true) : k = .str := by cases k <;> simp_all [isStr]
theorem isSl_ok {k : TK} (h : isSl k = true) : ∃ e, k = .slice e := by cases k <;> simp_all [isSl]
def xle (o : Nat → Option AO) (ts : List TypeId) (x : SV) : Option SV :=
  match ts with
  | [t] => match Θ t with
    | none => none
    | some i => match (match x with
        | .d (.str _) => isStr i.k
        | _ => isSl i.k) with
      | true => (lenD o x).map fun (n : Nat) => SV.d (.int .i64 (n : Int))
      | false => none
  | _ => none
theorem xle_ok {o : Nat → Option AO} {ts : Array TypeId} {x : SV} {r : SV} (h : xle Θ o ts.toList x = some r) {K : SV → Prop} (hK : K r) : leOp Θ o ts x K := by
  unfold xle at h
  split at h
  · rename_i t ht
    have hts : ts = #[t] := by cases ts; simp_all
    split at h
    · cases h
    · rename_i i hi
      split at h
      · rename_i hc
        obtain ⟨n, hn, rfl⟩ := Option.map_eq_some_iff.1 h
        refine ⟨t, i, hts, hi, ?_, n, hn, hK⟩
        split at hc
        · exact isStr_ok hc
        · rename_i hx
          split
          · rename_i b; exact absurd rfl (hx b)
          · exact isSl_ok hc
      · cases h
  · cases h

def spineD : List D → List D
  | [] => []
  | x :: xs => match spineD xs with
    | ys => x :: ys
def xap (o : TM AO) (nk : Nat) (ts : List TypeId) (x y : SV) : Option XR :=
  match ts with
  | [t, u] => match Θ t with
    | none => none
    | some i => match i.k with
      | .slice e => match Θ e with
        | none => none
        | some j => match j.z with
          | none => none
          | some l => match dstOf o.get e j.sz x with
            | none => none
            | some (q, xs) => match (match y with
                | .d (.str b) => match Θ u with
                  | none => none
                  | some v => match v.k, j.k, l with
                    | .str, .int .u8, [.int .u8 0] => if j.sz = 1 ∧ j.bys = 1 then some (b.map fun (c : UInt8) => D.int .u8 (c.toNat : Int)) else none
                    | _, _, _ => none
                | y => if u = t then srcOf o.get j.sz y else none) with
              | none => none
              | some ys => if l.length = j.sz ∧ 0 < j.sz ∧ xs.length + ys.length ≤ 9223372036854775807 ∧ (xs.length + ys.length) * j.bys ≤ 140737488355328 then
                  some (.row nk, (match q with
                    | none => o
                    | some t => o.set t none).set nk (some (.row e j.sz (xs ++ ys))), nk + 1)
                else none
      | _ => none
  | _ => none
theorem xap_ok {o : TM AO} {nk : Nat} {ts : Array TypeId} {x y : SV} {r : SV} {o' : TM AO} {nk' : Nat} (h : xap Θ o nk ts.toList x y = some (r, o', nk')) {K : SV → (Nat → Option AO) → Nat → Prop} (hK : K r o'.get nk') : apOp Θ o.get nk ts x y K := by
  unfold xap at h
  split at h
  · rename_i t u ht
    have hts : ts = #[t, u] := by cases ts; simp_all
    split at h
    · cases h
    · rename_i i hi
      split at h
      · rename_i e hk
        split at h
        · cases h
        · rename_i j hj
          split at h
          · cases h
          · rename_i l hz
            split at h
            · cases h
            · rename_i q xs hd
              split at h
              · cases h
              · rename_i ys hys
                split at h
                · rename_i hc
                  simp only [Option.some.injEq, Prod.mk.injEq] at h
                  obtain ⟨rfl, rfl, rfl⟩ := h
                  refine ⟨t, u, i, e, j, l, q, xs, ys, hts, hi, hk, hj, hz, hc.1, hc.2.1, hd, ?_, hc.2.2.1, hc.2.2.2, ?_⟩
                  · split at hys
                    · split at hys
                      · cases hys
                      · rename_i v hv
                        split at hys
                        · rename_i _ h1 h2
                          split at hys
                          · rename_i h4
                            simp only [Option.some.injEq] at hys
                            subst hys
                            exact ⟨⟨v, hv, h1⟩, h2, h4.1, h4.2, rfl, rfl⟩
                          · cases hys
                        · cases hys
                    · rename_i hx
                      split at hys
                      · rename_i hu
                        split
                        · rename_i b; exact absurd rfl (hx b)
                        · exact ⟨hu, hys⟩
                      · cases hys
                  · rw [TM.get_set] at hK
                    cases q with
                    | none => exact hK
                    | some q => rw [TM.get_set] at hK; exact hK
                · cases h
      · cases h
  · cases h

def xev (s : XS) : Operand → SV
  | .tmp t => match s.sl.get t with
    | some v => v
    | none => .any
  | .const v => cst v
  | .func f => .clo f [] []
  | .global _ => .any
theorem xev_eq (s : XS) (x : Operand) : xev s x = ev s.st.sl x := by
  cases x <;> simp only [xev, ev, XS.st]
  split <;> simp_all

/-- The letters that an iterator stands at. -/
def itAt : Obj → Option (List UInt8 × Nat)
  | .stringIter b pos => some (b.data.toList, pos)
  | _ => none
theorem itAt_ok {ob : Obj} {l : List UInt8} {pos : Nat} (h : itAt ob = some (l, pos)) : ob = itOb l pos := by
  cases ob <;> simp [itAt] at h
  obtain ⟨rfl, rfl⟩ := h
  rename_i b _
  obtain ⟨⟨a⟩⟩ := b
  rfl

/-- One operation, computed. -/
def xOp (op : Op) (s : XS) : Option XR :=
  match op with
  | .move x => some (xev s x, s.o, s.nk)
  | .assign x => some (xev s x, s.o, s.nk)
  | .pick c x y => match xev s c with
    | .d (.bool true) => some (xev s x, s.o, s.nk)
    | .d (.bool false) => some (xev s y, s.o, s.nk)
    | _ => none
  | .alloc e => match Θ e with
    | none => none
    | some i => match i.z with
      | none => none
      | some l => some (.loc s.nk 0, s.o.set s.nk (some (.box (l.map .d))), s.nk + 1)
  | .box e x => match (xev s x).cells s.o.get with
    | none => none
    | some cs => some (.loc s.nk 0, s.o.set s.nk (some (.box cs)), s.nk + 1)
  | .build t parts => (xbu Θ t (parts.toList.map fun p => (p.1, xev s p.2))).map fun v => (v, s.o, s.nk)
  | .buildSlice t n parts => xbs Θ s.o s.nk t n (parts.toList.map fun p => (p.1, xev s p.2))
  | .load t x => (xld Θ s.o.get t (xev s x)).map fun v => (v, s.o, s.nk)
  | .store t x y => (xst Θ s.o t (xev s x) (xev s y)).map fun o' => (.any, o', s.nk)
  | .nilCheck x => match xev s x with
    | .loc k f => match s.o.get k with
      | some (.box _) => some (.loc k f, s.o, s.nk)
      | _ => none
    | .el x => some (.el x, s.o, s.nk)
    | .clo a b c => some (.clo a b c, s.o, s.nk)
    | _ => none
  | .binOp b t x y _ => (xbn Θ s.o.get b t (xev s x) (xev s y)).map fun v => (.d v, s.o, s.nk)
  | .unOp b _ x => (unOpD b (xev s x)).map fun v => (.d v, s.o, s.nk)
  | .convert src dst x => (xco Θ s.o.get src dst (xev s x)).map fun v => (v, s.o, s.nk)
  | .makeFunc fn fs cs => match fn with
    | .func f => some (.clo f (fs.toList.map (xev s)) (cs.toList.map (xev s)), s.o, s.nk)
    | _ => none
  | .slice t x lo hi mx => xsl Θ s.o s.nk t (xev s x) (lo.map (xev s)) (hi.map (xev s)) (mx.map (xev s))
  | .fieldAddr t x f => (xfd Θ s.o.get t (xev s x) f).map fun v => (v, s.o, s.nk)
  | .field t x f => (xfv Θ t (xev s x) f).map fun v => (v, s.o, s.nk)
  | .indexAddr t x ix => (xix Θ s.o.get t (xev s x) (xev s ix)).map fun v => (v, s.o, s.nk)
  | .index t x ix => match Θ t with
    | none => none
    | some i => match i.k, xev s x, xev s ix with
      | .str, .d (.str l), .d (.int _ n) => if 0 ≤ n ∧ n.toNat < l.length then some (.d (.int .u8 (bAt l n.toNat)), s.o, s.nk) else none
      | _, _, _ => none
  | .extract x q => match xev s x with
    | .tup xs => (xs[q]?).map fun c => (c, s.o, s.nk)
    | _ => none
  | .call c => match c.callee with
    | .builtin b => match b, c.args.toList with
      | .len, [x] => (xle Θ s.o.get c.argTypes.toList (xev s x)).map fun v => (v, s.o, s.nk)
      | .append, [x, y] => xap Θ s.o s.nk c.argTypes.toList (xev s x) (xev s y)
      | .max, [x, y] => (mmD true (xev s x) (xev s y)).map fun v => (.d v, s.o, s.nk)
      | .min, [x, y] => (mmD false (xev s x) (xev s y)).map fun v => (.d v, s.o, s.nk)
      | _, _ => none
    | .value x => match xev s x with
      | .clo f fs cs => call f (fs ++ c.args.toList.map (xev s) ++ cs) s.o s.nk
      | _ => none
    | _ => none
  | .range t x => match Θ t with
    | none => none
    | some i => match i.k, xev s x with
      | .str, .d (.str l) => some (.raw s.nk, s.o.set s.nk (some (.raw (itOb l 0))), s.nk + 1)
      | _, _ => none
  | .next x true => match xev s x with
    | .raw k => match s.o.get k with
      | some (.raw ob) => match itAt ob with
        | none => none
        | some (l, pos) => if pos < l.length then some (.tup [.d (.bool true), .d (.int .i64 pos), .d (.int .i32 (Utf8.decode ⟨l.toArray⟩ pos).1)], s.o.set k (some (.raw (itOb l (pos + (Utf8.decode ⟨l.toArray⟩ pos).2)))), s.nk)
            else some (.tup [.d (.bool false)], s.o, s.nk)
      | _ => none
    | _ => none
  | _ => none
end
theorem xOp_ok {P : Program} {Θ : Tab} {call : Nat → List SV → TM AO → Nat → Option XR} (hc : ∀ f asx o nk r o' nk', call f asx o nk = some (r, o', nk') → Spec P f asx o.get nk fun r2 o2 n2 => r2 = r ∧ o2 = o'.get ∧ n2 = nk')
    {op : Op} {s : XS} {r : SV} {o' : TM AO} {nk' : Nat} (h : xOp Θ call op s = some (r, o', nk')) {K : SV → (Nat → Option AO) → Nat → Prop} (hK : K r o'.get nk') : vOp P Θ op s.st K := by
  have hev : ∀ x, xev s x = ev s.st.sl x := xev_eq s
  have hev2 : xev s = ev s.st.sl := funext hev
  have ho : s.st.o = s.o.get := rfl
  have hn : s.st.nk = s.nk := rfl
  have mp : ∀ {α : Type} {x : Option α} {f : α → XR}, x.map f = some (r, o', nk') → ∃ v, x = some v ∧ f v = (r, o', nk') := fun h => by simpa using h
  unfold xOp at h
  simp only [hev2] at h
  cases op with
  | move x => simp only [Option.some.injEq, Prod.mk.injEq] at h; obtain ⟨rfl, rfl, rfl⟩ := h; exact hK
  | assign x => simp only [Option.some.injEq, Prod.mk.injEq] at h; obtain ⟨rfl, rfl, rfl⟩ := h; exact hK
  | pick c x y =>
    simp only at h
    split at h
    · rename_i hb
      simp only [Option.some.injEq, Prod.mk.injEq] at h; obtain ⟨rfl, rfl, rfl⟩ := h
      exact ⟨true, hb, hK⟩
    · rename_i hb
      simp only [Option.some.injEq, Prod.mk.injEq] at h; obtain ⟨rfl, rfl, rfl⟩ := h
      exact ⟨false, hb, hK⟩
    · cases h
  | alloc e =>
    simp only at h
    split at h
    · cases h
    · rename_i i hi
      split at h
      · cases h
      · rename_i l hz
        simp only [Option.some.injEq, Prod.mk.injEq] at h; obtain ⟨rfl, rfl, rfl⟩ := h
        rw [TM.get_set] at hK
        exact ⟨i, l, hi, hz, hK⟩
  | box e x =>
    simp only at h
    split at h
    · cases h
    · rename_i cs hcs
      simp only [Option.some.injEq, Prod.mk.injEq] at h; obtain ⟨rfl, rfl, rfl⟩ := h
      rw [TM.get_set] at hK
      exact ⟨cs, hcs, hK⟩
  | build t parts =>
    simp only at h
    obtain ⟨v, h1, h2⟩ := mp h
    simp only [Prod.mk.injEq] at h2; obtain ⟨rfl, rfl, rfl⟩ := h2
    exact xbu_ok Θ h1 (K := fun v => K v s.st.o s.st.nk) hK
  | buildSlice t n parts => exact xbs_ok Θ h hK
  | load t x =>
    simp only at h
    obtain ⟨v, h1, h2⟩ := mp h
    simp only [Prod.mk.injEq] at h2; obtain ⟨rfl, rfl, rfl⟩ := h2
    exact xld_ok Θ h1 (K := fun v => K v s.st.o s.st.nk) hK
  | store t x y =>
    simp only at h
    obtain ⟨v, h1, h2⟩ := mp h
    simp only [Prod.mk.injEq] at h2; obtain ⟨rfl, rfl, rfl⟩ := h2
    exact xst_ok Θ h1 (K := fun o' => K .any o' s.st.nk) hK
  | nilCheck x =>
    simp only at h
    split at h
    · rename_i k f hx
      split at h
      · rename_i cs hcs
        simp only [Option.some.injEq, Prod.mk.injEq] at h; obtain ⟨rfl, rfl, rfl⟩ := h
        exact ⟨by rw [hx]; exact ⟨_, hcs⟩, by rw [hx]; exact hK⟩
      · cases h
    · rename_i y hx
      simp only [Option.some.injEq, Prod.mk.injEq] at h; obtain ⟨rfl, rfl, rfl⟩ := h
      exact ⟨by rw [hx]; trivial, by rw [hx]; exact hK⟩
    · rename_i a b c hx
      simp only [Option.some.injEq, Prod.mk.injEq] at h; obtain ⟨rfl, rfl, rfl⟩ := h
      exact ⟨by rw [hx]; trivial, by rw [hx]; exact hK⟩
    · cases h
  | binOp b t x y u =>
    simp only at h
    obtain ⟨v, h1, h2⟩ := mp h
    simp only [Prod.mk.injEq] at h2; obtain ⟨rfl, rfl, rfl⟩ := h2
    exact xbn_ok Θ h1 (K := fun v => K v s.st.o s.st.nk) hK
  | unOp b t x =>
    simp only at h
    obtain ⟨v, h1, h2⟩ := mp h
    simp only [Prod.mk.injEq] at h2; obtain ⟨rfl, rfl, rfl⟩ := h2
    exact ⟨v, h1, hK⟩
  | convert src dst x =>
    simp only at h
    obtain ⟨v, h1, h2⟩ := mp h
    simp only [Prod.mk.injEq] at h2; obtain ⟨rfl, rfl, rfl⟩ := h2
    exact xco_ok Θ h1 (K := fun v => K v s.st.o s.st.nk) hK
  | makeFunc fn fs cs =>
    cases fn with
    | func f =>
      simp only [Option.some.injEq, Prod.mk.injEq] at h; obtain ⟨rfl, rfl, rfl⟩ := h
      exact hK
    | _ => cases h
  | slice t x lo hi mx => exact xsl_ok Θ h hK
  | fieldAddr t x f =>
    simp only at h
    obtain ⟨v, h1, h2⟩ := mp h
    simp only [Prod.mk.injEq] at h2; obtain ⟨rfl, rfl, rfl⟩ := h2
    exact xfd_ok Θ h1 (K := fun v => K v s.st.o s.st.nk) hK
  | field t x f =>
    simp only at h
    obtain ⟨v, h1, h2⟩ := mp h
    simp only [Prod.mk.injEq] at h2; obtain ⟨rfl, rfl, rfl⟩ := h2
    exact xfv_ok Θ h1 (K := fun v => K v s.st.o s.st.nk) hK
  | indexAddr t x ix =>
    simp only at h
    obtain ⟨v, h1, h2⟩ := mp h
    simp only [Prod.mk.injEq] at h2; obtain ⟨rfl, rfl, rfl⟩ := h2
    exact xix_ok Θ h1 (K := fun v => K v s.st.o s.st.nk) hK
  | index t x ix =>
    simp only at h
    split at h
    · cases h
    · rename_i i hi
      split at h
      · rename_i h1 h2 h3
        split at h
        · rename_i hb
          simp only [Option.some.injEq, Prod.mk.injEq] at h; obtain ⟨rfl, rfl, rfl⟩ := h
          exact ⟨i, _, _, _, hi, h1, h2, h3, hb.1, hb.2, hK⟩
        · cases h
      · cases h
  | extract x q =>
    simp only at h
    split at h
    · rename_i xs hx
      obtain ⟨v, h1, h2⟩ := mp h
      simp only [Prod.mk.injEq] at h2; obtain ⟨rfl, rfl, rfl⟩ := h2
      exact ⟨xs, _, hx, h1, hK⟩
    · cases h
  | call c =>
    obtain ⟨callee, asx, ts⟩ := c
    simp only at h
    cases callee with
    | builtin b =>
      simp only at h
      show blOp Θ s.st b ts asx.toList K
      split at h
      · rename_i x hx
        obtain ⟨v, h1, h2⟩ := mp h
        simp only [Prod.mk.injEq] at h2; obtain ⟨rfl, rfl, rfl⟩ := h2
        rw [hx]
        exact xle_ok Θ h1 (K := fun v => K v s.st.o s.st.nk) hK
      · rename_i x y hx
        rw [hx]
        exact xap_ok Θ h hK
      · rename_i x y hx
        obtain ⟨v, h1, h2⟩ := mp h
        simp only [Prod.mk.injEq] at h2; obtain ⟨rfl, rfl, rfl⟩ := h2
        rw [hx]
        exact ⟨v, h1, hK⟩
      · rename_i x y hx
        obtain ⟨v, h1, h2⟩ := mp h
        simp only [Prod.mk.injEq] at h2; obtain ⟨rfl, rfl, rfl⟩ := h2
        rw [hx]
        exact ⟨v, h1, hK⟩
      · cases h
    | value x =>
      simp only at h
      split at h
      · rename_i f fs cs hx
        refine ⟨f, fs, cs, hx, ?_⟩
        exact (hc _ _ _ _ _ _ _ h).mono (by rintro r2 o2 n2 ⟨rfl, rfl, rfl⟩; exact hK)
      · cases h
    | _ => cases h
  | range t x =>
    simp only at h
    split at h
    · cases h
    · rename_i i hi
      split at h
      · rename_i h1 h2
        simp only [Option.some.injEq, Prod.mk.injEq] at h; obtain ⟨rfl, rfl, rfl⟩ := h
        rw [TM.get_set] at hK
        exact ⟨i, _, hi, h1, h2, hK⟩
      · cases h
  | next x b =>
    cases b with
    | false => cases h
    | true =>
      simp only at h
      split at h
      · rename_i k hx
        split at h
        · rename_i ob hq
          split at h
          · cases h
          · rename_i l pos hit
            have hob := itAt_ok hit
            subst hob
            split at h
            · rename_i hlt
              simp only [Option.some.injEq, Prod.mk.injEq] at h; obtain ⟨rfl, rfl, rfl⟩ := h
              rw [TM.get_set] at hK
              refine ⟨rfl, k, l, pos, hx, hq, ?_⟩
              rw [if_pos hlt]; exact hK
            · rename_i hlt
              simp only [Option.some.injEq, Prod.mk.injEq] at h; obtain ⟨rfl, rfl, rfl⟩ := h
              refine ⟨rfl, k, l, pos, hx, hq, ?_⟩
              rw [if_neg hlt]; exact hK
        · cases h
      · cases h
  | _ => cases h
end Go.Proofs.YtpkcbdhjnnnkbaaGreat.Abs

/- A run of code that is computed: regions, loops, calls; rows are frozen where their elements are read. -/
set_option linter.unusedVariables false
set_option linter.unusedSimpArgs false
namespace Go.Proofs.YtpkcbdhjnnnkbaaGreat.Abs
open Go

mutual
def D.eqb : D → D → Bool
  | .int k n, .int k2 n2 => decide (k = k2) && decide (n = n2)
  | .bool a, .bool b => a == b
  | .str s, .str t => decide (s = t)
  | .sl z xs, .sl z2 ys => decide (z = z2) && D.eqbs xs ys
  | .agg xs, .agg ys => D.eqbs xs ys
  | .nilp, .nilp => true
  | .nil, .nil => true
  | _, _ => false
def D.eqbs : List D → List D → Bool
  | [], [] => true
  | x :: xs, y :: ys => D.eqb x y && D.eqbs xs ys
  | _, _ => false
end
mutual
theorem D.eqb_ok : ∀ x y : D, D.eqb x y = true → x = y
  | .int k n, y, h => by cases y <;> simp [D.eqb] at h; obtain ⟨rfl, rfl⟩ := h; rfl
  | .bool a, y, h => by cases y <;> simp [D.eqb] at h; subst h; rfl
  | .str s, y, h => by cases y <;> simp [D.eqb] at h; subst h; rfl
  | .sl z xs, y, h => by
    cases y <;> simp [D.eqb] at h
    obtain ⟨rfl, h⟩ := h
    rw [D.eqbs_ok xs _ h]
  | .agg xs, y, h => by
    cases y <;> simp [D.eqb] at h
    rw [D.eqbs_ok xs _ h]
  | .nilp, y, h => by cases y <;> simp [D.eqb] at h; rfl
  | .nil, y, h => by cases y <;> simp [D.eqb] at h; rfl
theorem D.eqbs_ok : ∀ xs ys : List D, D.eqbs xs ys = true → xs = ys
  | [], [], _ => rfl
  | [], y :: ys, h => by simp [D.eqbs] at h
  | x :: xs, [], h => by simp [D.eqbs] at h
  | x :: xs, y :: ys, h => by
    simp only [D.eqbs, Bool.and_eq_true] at h
    rw [D.eqb_ok x y h.1, D.eqbs_ok xs ys h.2]
end
def SV.eqb : SV → SV → Bool
  | .d x, .d y => D.eqb x y
  | .loc a1 b1, .loc a2 b2 => decide (a1 = a2) && decide (b1 = b2)
  | .row a1, .row a2 => decide (a1 = a2)
  | .el x, .el y => D.eqb x y
  | .rel a1 b1 c1, .rel a2 b2 c2 => decide (a1 = a2) && decide (b1 = b2) && decide (c1 = c2)
  | .raw a1, .raw a2 => decide (a1 = a2)
  | .tup [], .tup [] => true
  | _, _ => false
theorem SV.eqb_ok {x y : SV} (h : SV.eqb x y = true) : x = y := by
  cases x <;> cases y <;> simp only [SV.eqb, Bool.and_eq_true, decide_eq_true_eq] at h <;> try (cases h; done)
  · rw [D.eqb_ok _ _ h]
  · obtain ⟨rfl, rfl⟩ := h; rfl
  · subst h; rfl
  · rw [D.eqb_ok _ _ h]
  · obtain ⟨⟨rfl, rfl⟩, rfl⟩ := h; rfl
  · rename_i xs ys
    cases xs <;> cases ys <;> simp [SV.eqb] at h
    rfl
  · subst h; rfl

/-! ### rows that are frozen -/
def XS.frz (s : XS) (t : Nat) : XS :=
  match s.o.get t with
  | some (.row _ z xs) => ⟨s.sl.mapT (SV.frz t (.sl z xs)), (s.o.mapT (AO.frz t (.sl z xs))).set t none, s.nk⟩
  | _ => s
theorem XS.frz_ok {E : Ent} {s : XS} {a : Act} {w : World} (t : Nat) (h : Rel E s.st a w) : Rel E (s.frz t).st a w := by
  unfold XS.frz
  split
  · rename_i e z xs ht
    have := h.freezeA 0 (t := t) (e := e) (z := z) (xs := xs) ht
    have e1 : (XS.st ⟨s.sl.mapT (SV.frz t (.sl z xs)), (s.o.mapT (AO.frz t (.sl z xs))).set t none, s.nk⟩) = { sl := fun u => (s.st.sl u).frz t (.sl z xs), o := frzo 0 s.st.o t (.sl z xs), nk := s.st.nk } := by
      simp only [XS.st, St.mk.injEq, and_true]
      constructor
      · funext u
        rw [TM.get_mapT]
        cases s.sl.get u <;> rfl
      · rw [TM.get_set]
        funext u
        simp only [upd, frzo, TM.get_mapT]
        split
        · rfl
        · simp
    rw [e1]; exact this
  · exact h
def XS.frzs (s : XS) : List Nat → XS
  | [] => s
  | t :: r => (s.frz t).frzs r
theorem XS.frzs_ok {E : Ent} {a : Act} {w : World} : ∀ (l : List Nat) {s : XS}, Rel E s.st a w → Rel E (s.frzs l).st a w
  | [], s, h => h
  | t :: r, s, h => frzs_ok r (s.frz_ok t h)
/-- Rows that a value tells of. -/
def rowsV : SV → List Nat
  | .row t => [t]
  | .rel t _ _ => [t]
  | _ => []
def rowsL : List SV → List Nat
  | [] => []
  | c :: r => rowsV c ++ rowsL r
def rowsO (o : TM AO) : SV → List Nat
  | .row t => [t]
  | .rel t _ _ => [t]
  | .loc t _ => match o.get t with
    | some (.box cs) => rowsL cs
    | _ => []
  | .tup cs => rowsL cs
  | _ => []

section
variable (Θ : Tab) (nofr : Nat → Bool) (call : Nat → List SV → TM AO → Nat → Option XR)

def putD (sl : TM SV) (d : Option Nat) (v : SV) : TM SV :=
  match d with
  | some d => sl.set d (some v)
  | none => sl
theorem putD_ok (sl : TM SV) (d : Option Nat) (v : SV) : (fun u => ((putD sl d v).get u).getD .any) = pt (fun u => (sl.get u).getD .any) d v := by
  cases d with
  | none => rfl
  | some d =>
    simp only [putD, pt, TM.get_set]
    funext u
    simp only [upd]
    split <;> rfl
theorem put_st (s : XS) (d : Option Nat) (v : SV) (o : TM AO) (nk : Nat) : (XS.mk (putD s.sl d v) o nk).st = { sl := pt s.st.sl d v, o := o.get, nk := nk } := by
  simp only [XS.st, putD_ok]

def xGuard (ops : Array Oper) (sl : TM SV) : Option (Nat × Bool) → Option Bool
  | none => some true
  | some (j, want) => match (ops[j]?).bind (·.dst) with
    | none => none
    | some d => match sl.get d with
      | some (.d (.bool b)) => some (if want = true then b else !b)
      | some (.tup []) => some false
      | _ => none
theorem xGuard_ok {ops : Array Oper} {s : XS} {g : Option (Nat × Bool)} {c : Bool} (h : xGuard ops s.sl g = some c) : gdc ops s.st g c := by
  unfold xGuard at h
  split at h
  · simp only [Option.some.injEq] at h; exact h.symm
  · rename_i j want
    split at h
    · cases h
    · rename_i d hd
      have hg : gsl ops s.st j = (s.sl.get d).getD .any := by unfold gsl; rw [hd]; rfl
      show GC (gsl ops s.st j) want c
      split at h
      · rename_i b hb
        simp only [Option.some.injEq] at h; subst h
        rw [hg, hb]
        exact .inl ⟨b, rfl, rfl⟩
      · rename_i hb
        simp only [Option.some.injEq] at h; subst h
        rw [hg, hb]
        exact .inr ⟨false, true, by rw [cnd_F]; rfl, rfl⟩
      · cases h

def callF : Op → Option Nat
  | .call c => match c.callee with
    | .value (.func f) => some f
    | _ => none
  | _ => none
def opVals (op : Op) (s : XS) : List SV := op.operands.toList.map (xev s)
def preF (op : Op) (s : XS) : List Nat :=
  match callF op with
  | some f => bif nofr f then [] else rowsL (opVals op s)
  | none => []
def postF (op : Op) (s : XS) : List Nat := (opVals op s).flatMap (rowsO s.o)

def xStep (ops : Array Oper) (op : Oper) (s : XS) : Option XS :=
  match xGuard ops s.sl op.guard with
  | none => none
  | some false => some ⟨putD s.sl op.dst (.tup []), s.o, s.nk⟩
  | some true => match s.frzs (preF nofr op.op s) with
    | s1 => match xOp Θ call op.op s1 with
      | some (v, o', nk') => some ⟨putD s1.sl op.dst v, o', nk'⟩
      | none => match s1.frzs (postF op.op s1) with
        | s2 => match xOp Θ call op.op s2 with
          | some (v, o', nk') => some ⟨putD s2.sl op.dst v, o', nk'⟩
          | none => none
def xOps (ops : Array Oper) : List Oper → XS → Option XS
  | [], s => some s
  | op :: r, s => match xStep Θ nofr call ops op s with
    | some s' => xOps ops r s'
    | none => none
end
section
variable {P : Program} {Θ : Tab} {nofr : Nat → Bool} {call : Nat → List SV → TM AO → Nat → Option XR}
def CallOk (P : Program) (call : Nat → List SV → TM AO → Nat → Option XR) : Prop := ∀ f asx o nk r o' nk', call f asx o nk = some (r, o', nk') → Spec P f asx o.get nk fun r2 o2 n2 => r2 = r ∧ o2 = o'.get ∧ n2 = nk'
theorem gdc_wanted {E : Ent} {s : St} {a : Act} {w : World} {ops : Array Oper} {o : Oper} {c : Bool} (hr : Rel E s a w) (h : gdc ops s o.guard c) : Region.wanted o (yielded ops a.tmps) = c := by
  unfold gdc at h
  unfold Region.wanted
  split at h
  · rename_i hg; rw [hg]; exact h.symm
  · rename_i j want hg
    rw [hg]
    exact guard_yield hr h
theorem xStep_ok (hΘ : TabOk P Θ) (hc : CallOk P call) {E : Ent} {ops : Array Oper} {op : Oper} {s s' : XS} {a : Act} {w : World} {next : Act → World → Prop} {Q : Exit → Act → World → Prop} (h : xStep Θ nofr call ops op s = some s') (hr : Rel E s.st a w) (hd : dstOk E.n op.dst = true)
    (hn : ∀ a' w', Rel E s'.st a' w' → next a' w') : if Region.wanted op (yielded ops a.tmps) then op.wp P a w next Q else next (a.put op.dst undef) w := by
  unfold xStep at h
  split at h
  · cases h
  · rename_i hg
    have hw := gdc_wanted (o := op) hr (xGuard_ok hg)
    rw [if_neg (by rw [hw]; simp)]
    simp only [Option.some.injEq] at h
    subst h
    refine hn _ _ ?_
    rw [put_st]
    obtain ⟨S, γ, hr⟩ := hr
    exact ⟨S, γ, hr.put hd hr.sto (Tr.refl _ _ _ _ _) (.tup [] [] rfl (by simp)) trivial⟩
  · rename_i hg
    have hw := gdc_wanted (o := op) hr (xGuard_ok hg)
    rw [if_pos (by rw [hw])]
    simp only at h
    have hr1 := XS.frzs_ok (preF nofr op.op s) hr
    generalize s.frzs (preF nofr op.op s) = s1 at h hr1
    split at h
    · rename_i v o' nk' hx
      simp only [Option.some.injEq] at h
      subst h
      refine op_step hΘ hr1 hd (xOp_ok hc hx (K := fun v2 o2 n2 => v2 = v ∧ o2 = o'.get ∧ n2 = nk') ⟨rfl, rfl, rfl⟩) ?_
      rintro v2 o2 n2 a' w' ⟨rfl, rfl, rfl⟩ hr'
      refine hn _ _ ?_
      rw [put_st]; exact hr'
    · have hr2 := XS.frzs_ok (postF op.op s1) hr1
      generalize s1.frzs (postF op.op s1) = s2 at h hr2
      split at h
      · rename_i v o' nk' hx
        simp only [Option.some.injEq] at h
        subst h
        refine op_step hΘ hr2 hd (xOp_ok hc hx (K := fun v2 o2 n2 => v2 = v ∧ o2 = o'.get ∧ n2 = nk') ⟨rfl, rfl, rfl⟩) ?_
        rintro v2 o2 n2 a' w' ⟨rfl, rfl, rfl⟩ hr'
        refine hn _ _ ?_
        rw [put_st]; exact hr'
      · cases h
theorem xOps_ok (hΘ : TabOk P Θ) (hc : CallOk P call) {E : Ent} {ops : Array Oper} {Q : Exit → Act → World → Prop} {s' : XS} (hq : ∀ a w, Rel E s'.st a w → Q .normal a w) :
    ∀ (l : List Oper) (s : XS) (a : Act) (w : World), (l.all fun o => dstOk E.n o.dst) = true → Rel E s.st a w → xOps Θ nofr call ops l s = some s' → wpList P ops Q l a w
  | [], s, a, w, _, hr, h => by
    simp only [xOps, Option.some.injEq] at h
    subst h
    exact hq a w hr
  | op :: r, s, a, w, hd, hr, h => by
    simp only [List.all_cons, Bool.and_eq_true] at hd
    simp only [xOps] at h
    split at h
    · rename_i s1 hs1
      refine wpList_step fun K hK => ?_
      exact xStep_ok hΘ hc hs1 hr hd.1 fun a' w' h1 => hK a' w' (xOps_ok hΘ hc hq r s1 a' w' hd.2 h1 h)
    · cases h
end
end Go.Proofs.YtpkcbdhjnnnkbaaGreat.Abs

/- A run of code that is computed: drawn regions, loops, calls. -/
set_option linter.unusedVariables false
set_option linter.unusedSimpArgs false
namespace Go.Proofs.YtpkcbdhjnnnkbaaGreat.Abs
open Go

def isW (op : Op) : Bool :=
  match op with
  | .store _ _ _ => true
  | .box _ _ => true
  | .alloc _ => true
  | .makeMap _ _ => true
  | .mapUpdate _ _ _ _ => true
  | .range _ _ => true
  | .next _ _ => true
  | .buildSlice _ n _ => Nat.beq n 0
  | .call c => match c.callee with
    | .builtin .append => true
    | .builtin _ => false
    | _ => true
  | _ => false
/-- What leaves the objects. -/
def isQ (op : Op) : Bool :=
  match op with
  | .move _ => true
  | .assign _ => true
  | .pick _ _ _ => true
  | .build _ _ => true
  | .load _ _ => true
  | .nilCheck _ => true
  | .binOp _ _ _ _ _ => true
  | .unOp _ _ _ => true
  | .convert _ _ _ => true
  | .makeFunc _ _ _ => true
  | .fieldAddr _ _ _ => true
  | .field _ _ _ => true
  | .indexAddr _ _ _ => true
  | .index _ _ _ => true
  | .extract _ _ => true
  | .buildSlice _ _ _ => true
  | .slice _ _ _ _ _ => true
  | .call c => match c.callee with
    | .builtin b => match b with
      | .append => false
      | _ => true
    | _ => false
  | _ => false
section
variable {Θ : Tab} {call : Nat → List SV → TM AO → Nat → Option XR}
theorem xq {op : Op} {s : XS} {r : SV} {o' : TM AO} {nk' : Nat} (hq : isQ op = true) (h : xOp Θ call op s = some (r, o', nk')) (hn : nk' = s.nk) : o' = s.o := by
  have mp : ∀ {α : Type} {x : Option α} {f : α → SV}, x.map (fun v => (f v, s.o, s.nk)) = some (r, o', nk') → o' = s.o := fun h => by
    obtain ⟨v, _, h⟩ := Option.map_eq_some_iff.1 h
    simp only [Prod.mk.injEq] at h
    exact h.2.1.symm
  unfold xOp at h
  cases op <;> simp only [isQ, Bool.false_eq_true] at hq <;> simp only at h
  case move => simp only [Option.some.injEq, Prod.mk.injEq] at h; exact h.2.1.symm
  case assign => simp only [Option.some.injEq, Prod.mk.injEq] at h; exact h.2.1.symm
  case pick => split at h <;> first | (simp only [Option.some.injEq, Prod.mk.injEq] at h; exact h.2.1.symm) | cases h
  case build => exact mp h
  case load => exact mp h
  case binOp => exact mp (f := .d) h
  case unOp => exact mp (f := .d) h
  case convert => exact mp h
  case fieldAddr => exact mp h
  case field => exact mp h
  case indexAddr => exact mp h
  case nilCheck =>
    split at h
    · split at h
      · simp only [Option.some.injEq, Prod.mk.injEq] at h; exact h.2.1.symm
      · cases h
    all_goals first | (simp only [Option.some.injEq, Prod.mk.injEq] at h; exact h.2.1.symm) | cases h
  case makeFunc => split at h <;> first | (simp only [Option.some.injEq, Prod.mk.injEq] at h; exact h.2.1.symm) | cases h
  case index =>
    split at h
    · cases h
    · split at h
      · split at h <;> first | (simp only [Option.some.injEq, Prod.mk.injEq] at h; exact h.2.1.symm) | cases h
      · cases h
  case extract =>
    split at h
    · exact mp h
    · cases h
  case buildSlice =>
    unfold xbs at h
    repeat' (split at h)
    all_goals first | cases h; done | (simp only [Option.some.injEq, Prod.mk.injEq] at h; first | exact h.2.1.symm | omega)
  case slice =>
    unfold xsl at h
    repeat' (split at h)
    all_goals first | cases h; done | (simp only [Option.some.injEq, Prod.mk.injEq] at h; first | exact h.2.1.symm | omega)
  case call c =>
    obtain ⟨callee, asx, ts⟩ := c
    cases callee with
    | builtin b =>
      simp only at h hq
      split at h
      · exact mp h
      · simp at hq
      · exact mp (f := .d) h
      · exact mp (f := .d) h
      · cases h
    | _ => simp at hq

/-- One operation, heeding its guard. -/
def xG (Θ : Tab) (call : Nat → List SV → TM AO → Nat → Option XR) (ops : Array Oper) (op : Oper) (s : XS) : Option XR :=
  match xGuard ops s.sl op.guard with
  | none => none
  | some false => some (.tup [], s.o, s.nk)
  | some true => xOp Θ call op.op s

/-- All that is done, one behind the other: what is yielded, and the objects behind every change. -/
def xDr (Θ : Tab) (call : Nat → List SV → TM AO → Nat → Option XR) (ops : Array Oper) : List Oper → List Kd → XS → Option (List SV × List (TM AO × Nat) × TM SV)
  | [], [], s => some ([], [], s.sl)
  | op :: r, .w _ :: ks, s => match xG Θ call ops op s with
    | none => none
    | some (v, o', nk') => match xDr Θ call ops r ks ⟨putD s.sl op.dst v, o', nk'⟩ with
      | none => none
      | some (vs, phs, sl) => some (v :: vs, (o', nk') :: phs, sl)
  | op :: r, .q _ _ :: ks, s => match xG Θ call ops op s with
    | none => none
    | some (v, _, _) => match xDr Θ call ops r ks ⟨putD s.sl op.dst v, s.o, s.nk⟩ with
      | none => none
      | some (vs, phs, sl) => some (v :: vs, phs, sl)
  | _, _, _ => none
def allX (n : Nat) (p : Nat → Bool) (lo : Nat) : Bool :=
  match n with
  | 0 => p lo
  | n + 1 => p lo && allX n p (lo + 1)
/-- What only looks yields the same whenever it is its turn. -/
def xChk (Θ : Tab) (call : Nat → List SV → TM AO → Nat → Option XR) (ops : Array Oper) (L : List (TM AO × Nat)) : List Oper → List Kd → List SV → TM SV → Nat → Bool
  | [], [], [], _, _ => true
  | op :: r, .w j :: ks, v :: vs, sl, p => decide (j = p) && xChk Θ call ops L r ks vs (putD sl op.dst v) (p + 1)
  | op :: r, .q lo hi :: ks, v :: vs, sl, p => isQ op.op && (allX (hi - lo) (fun q => match L[q]? with
      | none => false
      | some (o, nk) => match xG Θ call ops op ⟨sl, o, nk⟩ with
        | none => false
        | some (v2, _, nk2) => SV.eqb v v2 && decide (nk2 = nk)) lo) && xChk Θ call ops L r ks vs (putD sl op.dst v) p
  | _, _, _, _, _ => false
theorem xG_q {ops : Array Oper} {op : Oper} {s : XS} {v : SV} {o' : TM AO} {nk' : Nat} {P : Program} (hc : CallOk P call) (hq : isQ op.op = true) (h : xG Θ call ops op s = some (v, o', nk')) (hn : nk' = s.nk) : gOp P Θ ops op s.st v := by
  unfold xG at h
  split at h
  · cases h
  · rename_i hg
    have hg2 := xGuard_ok hg
    simp only [Option.some.injEq, Prod.mk.injEq] at h
    obtain ⟨rfl, _, _⟩ := h
    unfold gOp
    unfold gdc at hg2
    split at hg2
    · cases hg2
    · rename_i j want hgu
      rw [hgu]
      exact ⟨false, .any, hg2, fun e => (by cases e), (cnd_F _).symm⟩
  · rename_i hg
    have hg2 := xGuard_ok hg
    have ho := xq hq h hn
    subst ho; subst hn
    have hv : pOp P Θ op.op s.st v := xOp_ok hc h ⟨rfl, rfl, rfl⟩
    unfold gOp
    unfold gdc at hg2
    split at hg2
    · rename_i hgu; rw [hgu]; exact hv
    · rename_i j want hgu
      rw [hgu]
      exact ⟨true, v, hg2, fun _ => hv, (cnd_T v).symm⟩
theorem allX_ok {p : Nat → Bool} {R : Nat → Prop} (h : ∀ q, p q = true → R q) : ∀ (n lo : Nat), allX n p lo = true → allP n R lo
  | 0, lo, h1 => h lo h1
  | n + 1, lo, h1 => by
    simp only [allX, Bool.and_eq_true] at h1
    exact ⟨h lo h1.1, allX_ok h n (lo + 1) h1.2⟩
def phx (L : List (TM AO × Nat)) : Nat → Ob := fun p => match L[p]? with
  | some (o, nk) => (o.get, nk)
  | none => (fun _ => none, 0)
theorem xDr_ok {P : Program} (hc : CallOk P call) {ops : Array Oper} {K : St → Prop} {L : List (TM AO × Nat)} {m : Nat} {fin : XS} (hK : K fin.st) (hm : L[m]? = some (fin.o, fin.nk)) :
    ∀ (l : List Oper) (ks : List Kd) (s : XS) (vs : List SV) (phs pre : List (TM AO × Nat)) (p : Nat), xDr Θ call ops l ks s = some (vs, phs, fin.sl) → pre.length = p → L = pre ++ (s.o, s.nk) :: phs →
      m = p + phs.length → xChk Θ call ops L l ks vs s.sl p = true → eOps P Θ ops K (phx L) m l ks s.st.sl
  | [], [], s, vs, phs, pre, p, h, hp, hL, hmp, hk => by
    simp only [xDr, Option.some.injEq, Prod.mk.injEq] at h
    obtain ⟨rfl, rfl, h3⟩ := h
    show K ⟨s.st.sl, (phx L m).1, (phx L m).2⟩
    simp only [phx, hm]
    have : (⟨s.st.sl, fin.o.get, fin.nk⟩ : St) = fin.st := by simp only [XS.st, h3]
    rw [this]; exact hK
  | [], k :: ks, s, vs, phs, pre, p, h, hp, hL, hmp, hk => by simp [xDr] at h
  | op :: r, [], s, vs, phs, pre, p, h, hp, hL, hmp, hk => by simp [xDr] at h
  | op :: r, .w j :: ks, s, vs, phs, pre, p, h, hp, hL, hmp, hk => by
    simp only [xDr] at h
    split at h
    · cases h
    · rename_i v o' nk' hx
      split at h
      · cases h
      · rename_i vs' phs' sl' hx'
        simp only [Option.some.injEq, Prod.mk.injEq] at h
        obtain ⟨rfl, rfl, rfl⟩ := h
        simp only [xChk, Bool.and_eq_true, decide_eq_true_eq] at hk
        obtain ⟨rfl, hk⟩ := hk
        have hLp : L[j]? = some (s.o, s.nk) := by rw [hL, List.getElem?_append_right (by omega), hp]; simp
        have hLp1 : L[j + 1]? = some (o', nk') := by rw [hL, List.getElem?_append_right (by omega), hp]; simp
        have ih := xDr_ok hc hK hm r ks ⟨putD s.sl op.dst v, o', nk'⟩ vs' phs' (pre ++ [(s.o, s.nk)]) (j + 1) hx' (by simp [hp]) (by rw [hL]; simp) (by simp only [List.length_cons] at hmp; omega) hk
        refine ⟨v, ?_, by rw [put_st] at ih; exact ih⟩
        simp only [eOp, phx, hLp, hLp1]
        unfold xG at hx
        split at hx
        · cases hx
        · rename_i hg
          simp only [Option.some.injEq, Prod.mk.injEq] at hx
          obtain ⟨rfl, rfl, rfl⟩ := hx
          exact ⟨false, .any, xGuard_ok hg, fun e => (by cases e), fun _ => rfl, (cnd_F _).symm⟩
        · rename_i hg
          exact ⟨true, v, xGuard_ok hg, fun _ => xOp_ok hc hx ⟨rfl, rfl, rfl⟩, fun e => (by cases e), (cnd_T v).symm⟩
  | op :: r, .q lo hi :: ks, s, vs, phs, pre, p, h, hp, hL, hmp, hk => by
    simp only [xDr] at h
    split at h
    · cases h
    · rename_i v o' nk' hx
      split at h
      · cases h
      · rename_i vs' phs' sl' hx'
        simp only [Option.some.injEq, Prod.mk.injEq] at h
        obtain ⟨rfl, rfl, rfl⟩ := h
        simp only [xChk, Bool.and_eq_true] at hk
        obtain ⟨⟨hq, hall⟩, hk⟩ := hk
        have ih := xDr_ok hc hK hm r ks ⟨putD s.sl op.dst v, s.o, s.nk⟩ vs' phs' pre p hx' hp hL hmp hk
        refine ⟨v, ?_, by rw [put_st] at ih; exact ih⟩
        simp only [eOp]
        refine allX_ok (fun q hqq => ?_) _ _ hall
        split at hqq
        · cases hqq
        · rename_i o2 nk2 hLq
          split at hqq
          · cases hqq
          · rename_i v2 o3 nk3 hg
            simp only [Bool.and_eq_true, decide_eq_true_eq] at hqq
            have hv := SV.eqb_ok hqq.1
            subst hv
            have := xG_q (P := P) hc hq hg hqq.2
            simp only [phx, hLq]
            exact this
end

def takeN (p : Nat → Bool) : List Nat → Nat
  | [] => 0
  | x :: r => bif p x then takeN p r + 1 else 0
def kdGo (an : List (List Nat)) (ws : List Nat) : List Oper → Nat → Nat → List Kd
  | [], _, _ => []
  | op :: r, i, j => bif isW op.op then .w j :: kdGo an ws r (i + 1) (j + 1)
    else .q (takeN (fun w => (an.getD i []).contains w) ws) (takeN (fun w => !(an.getD w []).contains i) ws) :: kdGo an ws r (i + 1) j
def wrGo : List Oper → Nat → List Nat
  | [], _ => []
  | op :: r, i => bif isW op.op then i :: wrGo r (i + 1) else wrGo r (i + 1)
section
variable (Θ : Tab) (nofr : Nat → Bool) (call : Nat → List SV → TM AO → Nat → Option XR)
def xDraw (ops : Array Oper) (s : XS) : Option XS :=
  match ops.toList with
  | l => match wrGo l 0 with
    | wr => match kdGo (ancs l l.length) wr l 0 0 with
      | kd => bif flowOk ops && phOk l kd wr then match xDr Θ call ops l kd s with
          | none => none
          | some (vs, phs, sl) => match (s.o, s.nk) :: phs with
            | L => bif xChk Θ call ops L l kd vs s.sl 0 then match L[wr.length]? with
                | none => none
                | some (o, nk) => bif Nat.beq wr.length phs.length then some ⟨sl, o, nk⟩ else none
              else none
        else none
theorem xDraw_ok {P : Program} {n k0 : Nat} {Q : Exit → St → Prop} (hΘ : TabOk P Θ) (hm : P.follows .mixedOrders = true) (hc : CallOk P call) {id : Nat} {ops : Array Oper} {s s' : XS} (hd : (ops.toList.all fun o => dstOk n o.dst) = true) (h : xDraw Θ call ops s = some s') (hQ : Q .normal s'.st) :
    WP P n k0 (.region id ops true) s.st Q := by
  unfold xDraw at h
  simp only at h
  cases hb : flowOk ops && phOk ops.toList (kdGo (ancs ops.toList ops.toList.length) (wrGo ops.toList 0) ops.toList 0 0) (wrGo ops.toList 0) with
  | false => rw [hb] at h; cases h
  | true =>
    rw [hb] at h
    simp only [cond_true] at h
    simp only [Bool.and_eq_true] at hb
    split at h
    · cases h
    · rename_i vs phs sl hx
      cases hk : xChk Θ call ops ((s.o, s.nk) :: phs) ops.toList (kdGo (ancs ops.toList ops.toList.length) (wrGo ops.toList 0) ops.toList 0 0) vs s.sl 0 with
      | false => rw [hk] at h; cases h
      | true =>
        rw [hk] at h
        simp only [cond_true] at h
        split at h
        · cases h
        · rename_i o nk hL
          cases he : Nat.beq (wrGo ops.toList 0).length phs.length with
          | false => rw [he] at h; cases h
          | true =>
            rw [he] at h
            simp only [cond_true, Option.some.injEq] at h
            subst h
            have hlen := Nat.eq_of_beq_eq_true he
            have := WP.drawnW (P := P) (Θ := Θ) (n := n) (k0 := k0) (Q := Q) hΘ hm (sl := s.st.sl) (id := id) (ops := ops) _ _ (phx ((s.o, s.nk) :: phs)) hd hb.1 hb.2
              (xDr_ok hc (fin := ⟨sl, o, nk⟩) hQ hL _ _ s vs phs [] 0 hx rfl rfl (by omega) hk)
            exact this
/-- Rows that a drawn region's calls are handed. -/
def preD (l : List Oper) (s : XS) : List Nat := l.flatMap fun op => preF nofr op.op s
def postD (l : List Oper) (s : XS) : List Nat := l.flatMap fun op => postF op.op s
def xDrawF (ops : Array Oper) (s : XS) : Option XS :=
  match s.frzs (preD nofr ops.toList s) with
  | s1 => match xDraw Θ call ops s1 with
    | some s' => some s'
    | none => xDraw Θ call ops (s1.frzs (postD ops.toList s1))
end

/-- The results of a body. -/
def xRes (Θ : Tab) : List ResultVar → XS → Option (List SV × XS)
  | [], s => some ([], s)
  | .tmp t :: r, s => match xRes Θ r s with
    | none => none
    | some (vs, s') => match s'.sl.get t with
      | none => some (.any :: vs, s')
      | some v => some (v :: vs, s')
  | .cell a t :: r, s => match xRes Θ r s with
    | none => none
    | some (vs, s') => match s'.sl.get a with
      | some (.loc k f) => match xld Θ s'.o.get t (.loc k f) with
        | some v => some (v :: vs, s')
        | none => none
      | _ => none
def cellsR (s : XS) : List ResultVar → List Nat
  | [] => []
  | .tmp _ :: r => cellsR s r
  | .cell a _ :: r => (match s.sl.get a with
    | some c => rowsO s.o c
    | none => []) ++ cellsR s r
theorem xRes_ok {Θ : Tab} : ∀ {rs : List ResultVar} {s s' : XS} {vs : List SV}, xRes Θ rs s = some (vs, s') → s' = s ∧ ResL Θ s.st rs vs
  | [], s, s', vs, h => by
    simp only [xRes, Option.some.injEq, Prod.mk.injEq] at h
    obtain ⟨rfl, rfl⟩ := h
    exact ⟨rfl, trivial⟩
  | .tmp t :: r, s, s', vs, h => by
    simp only [xRes] at h
    split at h
    · cases h
    · rename_i vs1 s1 h1
      obtain ⟨rfl, h2⟩ := xRes_ok h1
      split at h
      · rename_i hg
        simp only [Option.some.injEq, Prod.mk.injEq] at h
        obtain ⟨rfl, rfl⟩ := h
        exact ⟨rfl, (by show SV.any = (s1.sl.get t).getD .any; rw [hg]; rfl), h2⟩
      · rename_i v hg
        simp only [Option.some.injEq, Prod.mk.injEq] at h
        obtain ⟨rfl, rfl⟩ := h
        exact ⟨rfl, (by show v = (s1.sl.get t).getD .any; rw [hg]; rfl), h2⟩
  | .cell a t :: r, s, s', vs, h => by
    simp only [xRes] at h
    split at h
    · cases h
    · rename_i vs1 s1 h1
      obtain ⟨rfl, h2⟩ := xRes_ok h1
      split at h
      · rename_i k f hg
        split at h
        · rename_i v hv
          simp only [Option.some.injEq, Prod.mk.injEq] at h
          obtain ⟨rfl, rfl⟩ := h
          have hsl : s1.st.sl a = .loc k f := by show (s1.sl.get a).getD .any = _; rw [hg]; rfl
          refine ⟨rfl, ⟨⟨k, f, hsl⟩, ?_⟩, h2⟩
          rw [hsl]
          exact xld_ok Θ hv rfl
        · cases h
      · cases h

/-- The functions' table, and the contracts of those that are not run. -/
structure Env where
  Θ : Tab
  tb : Nat → Option Func
  nat : Nat → List SV → Option D
  nofr : Nat → Bool
structure EnvOk (P : Program) (X : Env) : Prop where
  hΘ : TabOk P X.Θ
  tb : ∀ f fn, X.tb f = some fn → P.funcs[f]? = some fn ∧ (fn.name == "runtime.NumGoroutine") = false
  nat : ∀ f asx d, X.nat f asx = some d → PSpec P f asx (.d d)
  mix : P.follows .mixedOrders = true

mutual
def xCall (X : Env) : Nat → Nat → List SV → TM AO → Nat → Option XR
  | 0, _, _, _, _ => none
  | m + 1, f, asx, o, nk => match X.nat f asx with
    | some d => some (.d d, o, nk)
    | none => match X.tb f with
      | none => none
      | some fn => match fn.body with
        | none => none
        | some c => bif Nat.ble asx.length fn.ntmps then match xC X m fn.ntmps c ⟨TM.ofList asx, o, nk⟩ with
            | none => none
            | some (e, s) => match (match e with
                | .normal => true
                | .ret => true
                | _ => false) with
              | false => none
              | true => match xRes X.Θ fn.results.toList s with
                | some (vs, s') => some (tupOf vs, s'.o, s'.nk)
                | none => match s.frzs (cellsR s fn.results.toList) with
                  | s1 => match xRes X.Θ fn.results.toList s1 with
                    | some (vs, s') => some (tupOf vs, s'.o, s'.nk)
                    | none => none
          else none
def xC (X : Env) : Nat → Nat → Code → XS → Option (Exit × XS)
  | 0, _, _, _ => none
  | m + 1, n, c, s => match c with
    | .skip => some (.normal, s)
    | .ret => some (.ret, s)
    | .exit id => some (.exit id, s)
    | .seq x y => match xC X m n x s with
      | none => none
      | some (e, s') => match e with
        | .normal => xC X m n y s'
        | e => some (e, s')
    | .block id c => match xC X m n c s with
      | none => none
      | some (e, s') => match e with
        | .exit id' => bif Nat.beq id' id then some (.normal, s') else some (.exit id', s')
        | e => some (e, s')
    | .cond x c d => match xev s x with
      | .d (.bool true) => xC X m n c s
      | .d (.bool false) => xC X m n d s
      | _ => none
    | .loop c => match xC X m n c s with
      | none => none
      | some (e, s') => match e with
        | .normal => xC X m n (.loop c) s'
        | e => some (e, s')
    | .scope c => match xC X m n c s with
      | none => none
      | some (e, s') => match e with
        | .goto _ => none
        | e => some (e, s')
    | .region _ ops drawn => bif ops.toList.all fun o => dstOk n o.dst then match drawn with
        | false => match xOps X.Θ X.nofr (xCall X m) ops ops.toList s with
          | some s' => some (.normal, s')
          | none => none
        | true => match xDrawF X.Θ X.nofr (xCall X m) ops s with
          | some s' => some (.normal, s')
          | none => none
      else none
    | _ => none
end

/-- What a run that was computed tells. -/
def Ran (P : Program) (n : Nat) (c : Code) (s : XS) (e : Exit) (s' : XS) : Prop := ∀ E a w, E.n = n → Rel E s.st a w → c.wp P (fun e2 a2 w2 => e2 = e ∧ Rel E s'.st a2 w2) a w
theorem xDrawF_ok {P : Program} {Θ : Tab} {nofr : Nat → Bool} {call : Nat → List SV → TM AO → Nat → Option XR} {n : Nat} (hΘ : TabOk P Θ) (hm : P.follows .mixedOrders = true) (hc : CallOk P call) {id : Nat} {ops : Array Oper} {s s' : XS} (hd : (ops.toList.all fun o => dstOk n o.dst) = true)
    (h : xDrawF Θ nofr call ops s = some s') : Ran P n (.region id ops true) s .normal s' := by
  have key : ∀ {s1 : XS}, xDraw Θ call ops s1 = some s' → ∀ E a w, E.n = n → Rel E s1.st a w → (Code.region id ops true).wp P (fun e2 a2 w2 => e2 = .normal ∧ Rel E s'.st a2 w2) a w := by
    intro s1 h1 E a w he hr
    have := xDraw_ok (Θ := Θ) (call := call) (P := P) (n := n) (k0 := E.nk) (Q := fun e s2 => e = .normal ∧ s2 = s'.st) (id := id) hΘ hm hc hd h1 ⟨rfl, rfl⟩ E a w he rfl hr
    exact Go.wp_mono this (by rintro e a' w' ⟨s2, h2, rfl, rfl⟩; exact ⟨rfl, h2⟩)
  intro E a w he hr
  unfold xDrawF at h
  simp only at h
  have hr1 := XS.frzs_ok (preD nofr ops.toList s) hr
  split at h
  · rename_i s2 h2
    simp only [Option.some.injEq] at h
    subst h
    exact key h2 E a w he hr1
  · exact key h E a w he (XS.frzs_ok _ hr1)
theorem cond_bool {E : Ent} {s : XS} {a : Act} {w : World} {x : Operand} {b : Bool} (hr : Rel E s.st a w) (h : xev s x = .d (.bool b)) : a.eval x = .bool b := by
  obtain ⟨S, γ, hr⟩ := hr
  have h1 := hr.fr.ev x
  rw [← xev_eq, h] at h1
  generalize a.eval x = u at h1
  cases h1 with
  | d _ _ h2 => cases h2; rfl
theorem xC_loop {P : Program} {X : Env} : ∀ (m : Nat), (∀ k, k < m → ∀ n c s e s', xC X k n c s = some (e, s') → Ran P n c s e s') → ∀ n c s e s', xC X m n (.loop c) s = some (e, s') → ∀ E, E.n = n →
    ∃ k, ∀ a w, Rel E s.st a w → Code.rounds P c (fun e2 a2 w2 => e2 = e ∧ Rel E s'.st a2 w2) k a w
  | 0, _, n, c, s, e, s', h, _, _ => by simp [xC] at h
  | m + 1, ih, n, c, s, e, s', h, E, he => by
    simp only [xC] at h
    cases hb : xC X m n c s with
    | none => rw [hb] at h; cases h
    | some p =>
      obtain ⟨e1, s1⟩ := p
      rw [hb] at h
      have h1 := ih m (by omega) _ _ _ _ _ hb E
      cases e1 with
      | normal =>
        simp only at h
        obtain ⟨k, hk⟩ := xC_loop m (fun k hk => ih k (by omega)) n c s1 e s' h E he
        refine ⟨k + 1, fun a w hr => Go.wp_mono (h1 a w he hr) ?_⟩
        rintro e2 a2 w2 ⟨rfl, h2⟩
        exact hk a2 w2 h2
      | _ =>
        simp only [Option.some.injEq, Prod.mk.injEq] at h
        obtain ⟨rfl, rfl⟩ := h
        refine ⟨1, fun a w hr => Go.wp_mono (h1 a w he hr) ?_⟩
        rintro e2 a2 w2 ⟨rfl, h2⟩
        exact ⟨rfl, h2⟩
theorem of_list_st (asx : List SV) (o : TM AO) (nk : Nat) : (XS.mk (TM.ofList asx) o nk).st = { sl := slots asx, o := o.get, nk := nk } := by
  simp only [XS.st, St.mk.injEq, and_true]
  funext u
  rw [TM.get_ofList]
  simp [slots]
theorem ret_res {P : Program} {Θ : Tab} {E : Ent} {s s2 : XS} {rs : List ResultVar} {vs : List SV} {e : Exit} {a : Act} {w : World} (he : e = .normal ∨ e = .ret) (h : xRes Θ rs s = some (vs, s2)) (hr : Rel E s.st a w) :
    ∃ s3, Rel E s3 a w ∧ retC Θ rs (fun r2 o2 n2 => r2 = tupOf vs ∧ o2 = s2.o.get ∧ n2 = s2.nk) e s3 := by
  obtain ⟨rfl, h2⟩ := xRes_ok h
  refine ⟨_, hr, ?_⟩
  rcases he with rfl | rfl <;> exact ⟨vs, h2, rfl, rfl, rfl⟩
theorem xC_ok {P : Program} {X : Env} (hX : EnvOk P X) : ∀ m, (∀ n c s e s', xC X m n c s = some (e, s') → Ran P n c s e s') ∧ CallOk P (xCall X m) := by
  intro m
  induction m using Nat.strongRecOn with
  | _ m ih =>
    cases m with
    | zero => exact ⟨fun n c s e s' h => by simp [xC] at h, fun f asx o nk r o' nk' h => by simp [xCall] at h⟩
    | succ m =>
      obtain ⟨ihC, ihF⟩ := ih m (by omega)
      constructor
      · intro n c s e s' h
        cases c with
        | skip =>
          simp only [xC, Option.some.injEq, Prod.mk.injEq] at h
          obtain ⟨rfl, rfl⟩ := h
          exact fun E a w he hr => wp_skip ⟨rfl, hr⟩
        | ret =>
          simp only [xC, Option.some.injEq, Prod.mk.injEq] at h
          obtain ⟨rfl, rfl⟩ := h
          exact fun E a w he hr => wp_ret ⟨rfl, hr⟩
        | exit id =>
          simp only [xC, Option.some.injEq, Prod.mk.injEq] at h
          obtain ⟨rfl, rfl⟩ := h
          exact fun E a w he hr => wp_exit ⟨rfl, hr⟩
        | seq x y =>
          simp only [xC] at h
          cases hb : xC X m n x s with
          | none => rw [hb] at h; cases h
          | some p =>
            obtain ⟨e1, s1⟩ := p
            rw [hb] at h
            have h1 := ihC _ _ _ _ _ hb
            intro E a w he hr
            refine wp_seq (Go.wp_mono (h1 E a w he hr) ?_)
            rintro e2 a2 w2 ⟨rfl, h2⟩
            cases e2 with
            | normal => exact ihC _ _ _ _ _ h E a2 w2 he h2
            | _ =>
              simp only [Option.some.injEq, Prod.mk.injEq] at h
              obtain ⟨rfl, rfl⟩ := h
              exact ⟨rfl, h2⟩
        | block id c =>
          simp only [xC] at h
          cases hb : xC X m n c s with
          | none => rw [hb] at h; cases h
          | some p =>
            obtain ⟨e1, s1⟩ := p
            rw [hb] at h
            have h1 := ihC _ _ _ _ _ hb
            intro E a w he hr
            refine wp_block (Go.wp_mono (h1 E a w he hr) ?_)
            rintro e2 a2 w2 ⟨rfl, h2⟩
            cases e2 with
            | exit id' =>
              simp only at h
              show if id' = id then _ else _
              by_cases hid : id' = id
              · subst hid
                rw [if_pos rfl]
                simp only [Nat.beq_refl, cond_true, Option.some.injEq, Prod.mk.injEq] at h
                obtain ⟨rfl, rfl⟩ := h
                exact ⟨rfl, h2⟩
              · rw [if_neg hid]
                rw [TM.beq_cond, if_neg hid] at h
                simp only [Option.some.injEq, Prod.mk.injEq] at h
                obtain ⟨rfl, rfl⟩ := h
                exact ⟨rfl, h2⟩
            | _ =>
              simp only [Option.some.injEq, Prod.mk.injEq] at h
              obtain ⟨rfl, rfl⟩ := h
              exact ⟨rfl, h2⟩
        | cond x c d =>
          simp only [xC] at h
          intro E a w he hr
          split at h
          · rename_i hx
            exact wp_cond_true (cond_bool hr hx) (ihC _ _ _ _ _ h E a w he hr)
          · rename_i hx
            exact wp_cond_false (cond_bool hr hx) (ihC _ _ _ _ _ h E a w he hr)
          · cases h
        | loop c =>
          intro E a w he hr
          obtain ⟨k, hk⟩ := xC_loop (m + 1) (fun k hk => (ih k hk).1) n c s e s' h E he
          exact wp_loop_rounds k (hk a w hr)
        | scope c =>
          simp only [xC] at h
          cases hb : xC X m n c s with
          | none => rw [hb] at h; cases h
          | some p =>
            obtain ⟨e1, s1⟩ := p
            rw [hb] at h
            have h1 := ihC _ _ _ _ _ hb
            intro E a w he hr
            refine wp_scope_straight (Go.wp_mono (h1 E a w he hr) ?_)
            rintro e2 a2 w2 ⟨rfl, h2⟩
            cases e2 <;> first | (cases h; done) | (simp only [Option.some.injEq, Prod.mk.injEq] at h; obtain ⟨rfl, rfl⟩ := h; exact ⟨rfl, h2⟩)
        | region id ops drawn =>
          simp only [xC] at h
          cases hd : (ops.toList.all fun o => dstOk n o.dst) with
          | false => rw [hd] at h; cases h
          | true =>
            rw [hd] at h
            simp only [cond_true] at h
            cases drawn with
            | false =>
              simp only at h
              split at h
              · rename_i s1 hs1
                simp only [Option.some.injEq, Prod.mk.injEq] at h
                obtain ⟨rfl, rfl⟩ := h
                intro E a w he hr
                refine wp_region_list ?_
                exact xOps_ok hX.hΘ ihF (fun a w hr => ⟨rfl, hr⟩) _ _ a w (by rw [he]; exact hd) hr hs1
              · cases h
            | true =>
              simp only at h
              split at h
              · rename_i s1 hs1
                simp only [Option.some.injEq, Prod.mk.injEq] at h
                obtain ⟨rfl, rfl⟩ := h
                exact xDrawF_ok hX.hΘ hX.mix ihF hd hs1
              · cases h
        | _ => simp [xC] at h
      · intro f asx o nk r o' nk' h
        simp only [xCall] at h
        split at h
        · rename_i d hd
          simp only [Option.some.injEq, Prod.mk.injEq] at h
          obtain ⟨rfl, rfl, rfl⟩ := h
          exact hX.nat f asx d hd o.get nk
        · split at h
          · cases h
          · rename_i fn hfn
            split at h
            · cases h
            · rename_i c hbody
              cases hle : Nat.ble asx.length fn.ntmps with
              | false => rw [hle] at h; cases h
              | true =>
                rw [hle] at h
                simp only [cond_true] at h
                split at h
                · cases h
                · rename_i e s1 hrun
                  have hrun := ihC _ _ _ _ _ hrun
                  split at h
                  · cases h
                  · rename_i he
                    have he : e = .normal ∨ e = .ret := by cases e <;> simp_all
                    obtain ⟨k1, k2⟩ := hX.tb f fn hfn
                    refine Spec.of_bodyC hX.hΘ (rs := fn.results.toList) (c := c) (n := fn.ntmps) ⟨fn, k1, hbody, k2, rfl, rfl⟩ (Nat.le_of_ble_eq_true hle) ?_
                    rw [← of_list_st]
                    intro E a w hn _ hr
                    refine Go.wp_mono (hrun E a w hn hr) ?_
                    rintro e2 a2 w2 ⟨rfl, h2⟩
                    split at h
                    · rename_i vs s2 hres
                      simp only [Option.some.injEq, Prod.mk.injEq] at h
                      obtain ⟨rfl, rfl, rfl⟩ := h
                      exact ret_res (P := P) he hres h2
                    · split at h
                      · rename_i vs s2 hres
                        simp only [Option.some.injEq, Prod.mk.injEq] at h
                        obtain ⟨rfl, rfl, rfl⟩ := h
                        exact ret_res (P := P) he hres (XS.frzs_ok _ h2)
                      · cases h

/-! ### runs from nothing -/
theorem Spec.close {P : Program} {f : FuncId} {xs : List D} {x : D} (h : Spec P f (xs.map .d) (fun _ => none) 0 fun r _ _ => r = .d x) : PSpec P f (xs.map .d) (.d x) := by
  intro o nk w S γ vs h1 h2 h3 h4
  have hd : ∀ (i : Nat) (c : SV) (v : Value), (xs.map SV.d)[i]? = some c → vs[i]? = some v → SR w S γ (fun _ => none) c v := fun i c v hc hv => by
    have hr := h3 i c v hc hv
    rw [List.getElem?_map] at hc
    obtain ⟨y, _, rfl⟩ := Option.map_eq_some_iff.1 hc
    cases hr with
    | d _ _ hr => exact .d _ _ hr
  have hl : SV.lts 0 (xs.map SV.d) := lts_of fun i c hc => by
    rw [List.getElem?_map] at hc
    obtain ⟨d, _, rfl⟩ := Option.map_eq_some_iff.1 hc
    trivial
  have hs : Sto w S γ (fun _ => none) 0 := ⟨h1.s_lt, fun _ _ h => (by cases h), fun _ _ h => (by cases h), fun _ _ _ _ h => (by cases h), fun _ _ h => (by cases h), fun _ _ _ h => (by cases h), fun _ _ _ _ _ _ h => (by cases h)⟩
  refine (h w S γ vs hs h2 hd hl).mono ?_
  rintro v w' ⟨r, o', nk', S', γ', rfl, k1, k2, k3, k4⟩
  have hk : ∀ k, k < w.heap.size → w'.heap[k]? = w.heap[k]? := fun k hk => k2.kept k hk (by rintro ⟨t, x, ht, _⟩; cases ht)
  obtain ⟨m1, m2⟩ := h1.more (w' := w') (fun k => w.heap.size ≤ k ∧ k < w'.heap.size) (fun _ h => h) k2.os k2.tape k2.output k2.size hk
  refine ⟨_, o, nk, _, γ, ⟨rfl, rfl, rfl⟩, m1, m2, ?_, trivial⟩
  cases k3 with
  | d _ _ hr =>
    refine .d _ _ (hr.mono (fun k hk => ?_) fun _ _ => rfl)
    rcases k2.s_new k hk with h | h | ⟨t, x, ht, _⟩
    · exact .inl h
    · exact .inr ⟨h, k1.s_lt k hk⟩
    · cases ht
def isD (x : D) : Option XR → Bool
  | some (.d y, _, _) => D.eqb x y
  | _ => false
/-- What the run yields, the function yields, whatever there is beside. -/
theorem PSpec.run {P : Program} {X : Env} (hX : EnvOk P X) (m : Nat) {f : FuncId} {xs : List D} {x : D} (h : isD x (xCall X m f (xs.map .d) .e 0) = true) : PSpec P f (xs.map .d) (.d x) := by
  refine Spec.close ?_
  cases hx : xCall X m f (xs.map .d) .e 0 with
  | none => rw [hx] at h; cases h
  | some p =>
    obtain ⟨r, o', nk'⟩ := p
    rw [hx] at h
    have hs := (xC_ok hX m).2 _ _ _ _ _ _ _ hx
    have he : (TM.e : TM AO).get = fun _ => none := by funext u; rfl
    rw [he] at hs
    refine hs.mono ?_
    rintro r2 o2 n2 ⟨rfl, _, _⟩
    cases r2 <;> simp only [isD] at h <;> try (cases h; done)
    rw [D.eqb_ok _ _ h]
def tbF : List (Nat × Func) → Nat → Option Func
  | [], _ => none
  | (k, fn) :: r, f => bif Nat.beq k f then some fn else tbF r f
theorem tbF_ok {P : Program} : ∀ (l : List (Nat × Func)), (∀ p ∈ l, P.funcs[p.1]? = some p.2 ∧ (p.2.name == "runtime.NumGoroutine") = false) → ∀ f fn, tbF l f = some fn → P.funcs[f]? = some fn ∧ (fn.name == "runtime.NumGoroutine") = false
  | [], _, f, fn, h => by simp [tbF] at h
  | (k, g) :: r, hl, f, fn, h => by
    simp only [tbF, TM.beq_cond] at h
    split at h
    · rename_i hk
      subst hk
      simp only [Option.some.injEq] at h
      subst h
      exact hl (k, g) (by simp)
    · exact tbF_ok r (fun p hp => hl p (by simp [hp])) f fn h
end Go.Proofs.YtpkcbdhjnnnkbaaGreat.Abs

/- A run in the kernel. -/
set_option linter.unusedVariables false
set_option maxRecDepth 100000
namespace Go.Proofs.YtpkcbdhjnnnkbaaGreat.Abs.Run44
open Go
noncomputable def tbl : List (Nat × Func) := [(34, Tryz.f34), (36, Tryz.f36), (38, Tryz.f38), (39, Tryz.f39), (41, Tryz.f41), (42, Tryz.f42), (44, Tryz.f44), (45, Tryz.f45), (47, Tryz.f47), (48, Tryz.f48), (50, Tryz.f50), (51, Tryz.f51), (54, Tryz.f54), (56, Tryz.f56), (70, Tryz.f70), (71, Tryz.f71), (72, Tryz.f72), (73, Tryz.f73), (74, Tryz.f74), (75, Tryz.f75), (76, Tryz.f76), (77, Tryz.f77), (84, Tryz.f84), (85, Tryz.f85), (86, Tryz.f86), (87, Tryz.f87), (92, Tryz.f92), (93, Tryz.f93), (98, Tryz.f98), (99, Tryz.f99), (100, Tryz.f100), (101, Tryz.f101), (102, Tryz.f102), (103, Tryz.f103), (104, Tryz.f104), (106, Tryz.f106), (107, Tryz.f107), (108, Tryz.f108), (109, Tryz.f109), (110, Tryz.f110), (111, Tryz.f111), (112, Tryz.f112), (114, Tryz.f114), (119, Tryz.f119), (120, Tryz.f120), (121, Tryz.f121), (122, Tryz.f122), (123, Tryz.f123), (124, Tryz.f124), (125, Tryz.f125), (126, Tryz.f126), (127, Tryz.f127), (128, Tryz.f128), (129, Tryz.f129), (130, Tryz.f130), (137, Tryz.f137), (138, Tryz.f138), (139, Tryz.f139), (142, Tryz.f142), (143, Tryz.f143), (146, Tryz.f146), (147, Tryz.f147), (148, Tryz.f148), (149, Tryz.f149), (150, Tryz.f150), (151, Tryz.f151), (152, Tryz.f152), (153, Tryz.f153), (154, Tryz.f154), (155, Tryz.f155), (156, Tryz.f156), (157, Tryz.f157), (158, Tryz.f158), (159, Tryz.f159), (160, Tryz.f160), (161, Tryz.f161), (162, Tryz.f162), (163, Tryz.f163), (169, Tryz.f169), (172, Tryz.f172), (173, Tryz.f173), (174, Tryz.f174), (175, Tryz.f175), (176, Tryz.f176), (177, Tryz.f177), (178, Tryz.f178), (179, Tryz.f179), (180, Tryz.f180), (181, Tryz.f181), (182, Tryz.f182), (183, Tryz.f183), (184, Tryz.f184), (185, Tryz.f185), (186, Tryz.f186), (187, Tryz.f187), (194, Tryz.f194), (195, Tryz.f195), (196, Tryz.f196), (197, Tryz.f197), (199, Tryz.f199), (202, Tryz.f202), (203, Tryz.f203), (204, Tryz.f204), (205, Tryz.f205), (206, Tryz.f206), (207, Tryz.f207), (209, Tryz.f209), (210, Tryz.f210), (211, Tryz.f211)]
theorem tbl_ok : ∀ p ∈ tbl, Tryz.prog.funcs[p.1]? = some p.2 ∧ (p.2.name == "runtime.NumGoroutine") = false := by
  simp only [tbl, List.forall_mem_cons]
  exact ⟨⟨Tryz.func34, by kernel_rfl⟩, ⟨Tryz.func36, by kernel_rfl⟩, ⟨Tryz.func38, by kernel_rfl⟩, ⟨Tryz.func39, by kernel_rfl⟩, ⟨Tryz.func41, by kernel_rfl⟩, ⟨Tryz.func42, by kernel_rfl⟩, ⟨Tryz.func44, by kernel_rfl⟩, ⟨Tryz.func45, by kernel_rfl⟩, ⟨Tryz.func47, by kernel_rfl⟩, ⟨Tryz.func48, by kernel_rfl⟩, ⟨Tryz.func50, by kernel_rfl⟩, ⟨Tryz.func51, by kernel_rfl⟩, ⟨Tryz.func54, by kernel_rfl⟩, ⟨Tryz.func56, by kernel_rfl⟩, ⟨Tryz.func70, by kernel_rfl⟩, ⟨Tryz.func71, by kernel_rfl⟩, ⟨Tryz.func72, by kernel_rfl⟩, ⟨Tryz.func73, by kernel_rfl⟩, ⟨Tryz.func74, by kernel_rfl⟩, ⟨Tryz.func75, by kernel_rfl⟩, ⟨Tryz.func76, by kernel_rfl⟩, ⟨Tryz.func77, by kernel_rfl⟩, ⟨Tryz.func84, by kernel_rfl⟩, ⟨Tryz.func85, by kernel_rfl⟩, ⟨Tryz.func86, by kernel_rfl⟩, ⟨Tryz.func87, by kernel_rfl⟩, ⟨Tryz.func92, by kernel_rfl⟩, ⟨Tryz.func93, by kernel_rfl⟩, ⟨Tryz.func98, by kernel_rfl⟩, ⟨Tryz.func99, by kernel_rfl⟩, ⟨Tryz.func100, by kernel_rfl⟩, ⟨Tryz.func101, by kernel_rfl⟩, ⟨Tryz.func102, by kernel_rfl⟩, ⟨Tryz.func103, by kernel_rfl⟩, ⟨Tryz.func104, by kernel_rfl⟩, ⟨Tryz.func106, by kernel_rfl⟩, ⟨Tryz.func107, by kernel_rfl⟩, ⟨Tryz.func108, by kernel_rfl⟩, ⟨Tryz.func109, by kernel_rfl⟩, ⟨Tryz.func110, by kernel_rfl⟩, ⟨Tryz.func111, by kernel_rfl⟩, ⟨Tryz.func112, by kernel_rfl⟩, ⟨Tryz.func114, by kernel_rfl⟩, ⟨Tryz.func119, by kernel_rfl⟩, ⟨Tryz.func120, by kernel_rfl⟩, ⟨Tryz.func121, by kernel_rfl⟩, ⟨Tryz.func122, by kernel_rfl⟩, ⟨Tryz.func123, by kernel_rfl⟩, ⟨Tryz.func124, by kernel_rfl⟩, ⟨Tryz.func125, by kernel_rfl⟩, ⟨Tryz.func126, by kernel_rfl⟩, ⟨Tryz.func127, by kernel_rfl⟩, ⟨Tryz.func128, by kernel_rfl⟩, ⟨Tryz.func129, by kernel_rfl⟩, ⟨Tryz.func130, by kernel_rfl⟩, ⟨Tryz.func137, by kernel_rfl⟩, ⟨Tryz.func138, by kernel_rfl⟩, ⟨Tryz.func139, by kernel_rfl⟩, ⟨Tryz.func142, by kernel_rfl⟩, ⟨Tryz.func143, by kernel_rfl⟩, ⟨Tryz.func146, by kernel_rfl⟩, ⟨Tryz.func147, by kernel_rfl⟩, ⟨Tryz.func148, by kernel_rfl⟩, ⟨Tryz.func149, by kernel_rfl⟩, ⟨Tryz.func150, by kernel_rfl⟩, ⟨Tryz.func151, by kernel_rfl⟩, ⟨Tryz.func152, by kernel_rfl⟩, ⟨Tryz.func153, by kernel_rfl⟩, ⟨Tryz.func154, by kernel_rfl⟩, ⟨Tryz.func155, by kernel_rfl⟩, ⟨Tryz.func156, by kernel_rfl⟩, ⟨Tryz.func157, by kernel_rfl⟩, ⟨Tryz.func158, by kernel_rfl⟩, ⟨Tryz.func159, by kernel_rfl⟩, ⟨Tryz.func160, by kernel_rfl⟩, ⟨Tryz.func161, by kernel_rfl⟩, ⟨Tryz.func162, by kernel_rfl⟩, ⟨Tryz.func163, by kernel_rfl⟩, ⟨Tryz.func169, by kernel_rfl⟩, ⟨Tryz.func172, by kernel_rfl⟩, ⟨Tryz.func173, by kernel_rfl⟩, ⟨Tryz.func174, by kernel_rfl⟩, ⟨Tryz.func175, by kernel_rfl⟩, ⟨Tryz.func176, by kernel_rfl⟩, ⟨Tryz.func177, by kernel_rfl⟩, ⟨Tryz.func178, by kernel_rfl⟩, ⟨Tryz.func179, by kernel_rfl⟩, ⟨Tryz.func180, by kernel_rfl⟩, ⟨Tryz.func181, by kernel_rfl⟩, ⟨Tryz.func182, by kernel_rfl⟩, ⟨Tryz.func183, by kernel_rfl⟩, ⟨Tryz.func184, by kernel_rfl⟩, ⟨Tryz.func185, by kernel_rfl⟩, ⟨Tryz.func186, by kernel_rfl⟩, ⟨Tryz.func187, by kernel_rfl⟩, ⟨Tryz.func194, by kernel_rfl⟩, ⟨Tryz.func195, by kernel_rfl⟩, ⟨Tryz.func196, by kernel_rfl⟩, ⟨Tryz.func197, by kernel_rfl⟩, ⟨Tryz.func199, by kernel_rfl⟩, ⟨Tryz.func202, by kernel_rfl⟩, ⟨Tryz.func203, by kernel_rfl⟩, ⟨Tryz.func204, by kernel_rfl⟩, ⟨Tryz.func205, by kernel_rfl⟩, ⟨Tryz.func206, by kernel_rfl⟩, ⟨Tryz.func207, by kernel_rfl⟩, ⟨Tryz.func209, by kernel_rfl⟩, ⟨Tryz.func210, by kernel_rfl⟩, ⟨Tryz.func211, by kernel_rfl⟩, by simp⟩
def natF (f : Nat) (asx : List SV) : Option D :=
  match asx with
  | [.d (.str s), .d (.int .u8 c)] => bif Nat.beq f 208 then some (.int .i64 (Go.Lib.indexByte s c.toNat.toUInt8)) else none
  | [.d (.str s), .d (.str t)] => bif Nat.beq f 212 then some (.int .i64 (Go.Lib.compareBytes s t)) else none
  | _ => none
theorem natF_ok (f : Nat) (asx : List SV) (d : D) (h : natF f asx = some d) : PSpec Tryz.prog f asx (.d d) := by
  unfold natF at h
  split at h
  · rw [TM.beq_cond] at h
    split at h
    · rename_i hf; subst hf
      simp only [Option.some.injEq] at h; subst h
      exact s208 _ _
    · cases h
  · rw [TM.beq_cond] at h
    split at h
    · rename_i hf; subst hf
      simp only [Option.some.injEq] at h; subst h
      exact s212 _ _
    · cases h
  · cases h
noncomputable def env : Env := ⟨Θ, tbF tbl, natF, fun f => [].contains f⟩
theorem envOk : EnvOk Tryz.prog env := ⟨tabOk, fun f fn h => tbF_ok tbl tbl_ok f fn h, natF_ok, mix⟩
theorem ran : isD (.bool true) (xCall env 1000000 44 [] .e 0) = true := by kernel_rfl
theorem s : PSpec Tryz.prog 44 [] (.d (.bool true)) := PSpec.run envOk 1000000 (xs := []) ran
end Go.Proofs.YtpkcbdhjnnnkbaaGreat.Abs.Run44
namespace Go.Proofs.YtpkcbdhjnnnkbaaGreat.Abs
theorem s44 : PSpec Tryz.prog 44 [] (.d (.bool true)) := Run44.s
end Go.Proofs.YtpkcbdhjnnnkbaaGreat.Abs

set_option linter.unusedVariables false
set_option linter.unusedSimpArgs false
set_option maxRecDepth 10000
namespace Go.Proofs.YtpkcbdhjnnnkbaaGreat.Abs
open Go
section
variable {H : Type} {enc : TypeId × Value → H} {w : World} {base fuel : Nat} {spare : Nat → Bool} {held : Bool} {cs : List Value} {x : DataW H × List MemPlace}
theorem open_str (h : DataW.trod enc Tryz.prog w base spare held fuel 9 cs = some x) : ∃ s : Str, RdC w [.str s] cs ∧ AStr s x.1 := by
  obtain ⟨s, h1, h2⟩ := rd_str ((tabOk 9 _ th9).str rfl) h
  exact ⟨s, h1, h2⟩
/-- What an entry's copy wants. -/
structure OkC (e : Etr) : Prop where
  hi : szV e.id ≤ 1099511627776
  hd : szV e.doc ≤ 1099511627776
  hl : e.deltas.length ≤ 1099511627776
  hs : ∀ d ∈ e.deltas, szV d.value ≤ 1099511627776 ∧ d.path.length ≤ 1099511627776
theorem szDs_len : ∀ l : List Dlt, l.length ≤ szDs l
  | [] => by simp
  | d :: l => by
    have := szDs_len l
    have : 1 ≤ szV d.value := by cases d.value; simp only [szV]; omega
    simp only [szDs, List.length_cons]; omega
theorem okC_of {e : Etr} {d : DataW H} (h : AEtr e d) (hb : Rows.uptoBulk d ≤ 1048576) : OkC e := by
  have hs := h.sz
  have := szDs_len e.deltas
  refine ⟨by omega, by omega, by omega, fun x hx => ?_⟩
  have := szDs_mem hx
  have := szN_len x.path
  omega
end

theorem fn9 : FnOk Tryz.prog 9 29 [4] (bodyOf Tryz.f9) := ⟨Tryz.f9, Tryz.func9, by kernel_rfl, by decide, by kernel_rfl, by kernel_rfl⟩
theorem s9 (e : Etr) (s : Str) (ok : OkE e) (okd : ∀ d ∈ e.deltas, szV d.value ≤ 1099511627776) (okc : OkC e) : PSpec Tryz.prog 9 [.d (encE e), .d (.str s)] (.d (.bool true)) := by
 refine PSpec.of fn9 (by simp) fun o nk => ?_
 refine wr ?_
 refine u_step (g_box rfl fun o2 hb2 hk2 => ?_)
 refine ua ?_
 refine u_nil ?_
 refine WP.seq fun K3 hK3 => ?_
 refine wr ?_
 refine ug th30 hb2 ?_
 refine u_step (o_pcall (s22 e ok okd) rfl ?_)
 refine u_nil ?_
 refine wc (fun hc5 => ?_) (fun hc5 => ?_) <;> try simp only [Q0, Q1, Q2, Q3, Q4, Q5, Q6, Q7, Q8, ge_iff_le, gt_iff_lt] at hc5
 ·
  refine wr ?_
  refine u_step (o_pcall (s44) rfl ?_)
  refine ua ?_
  refine u_nil ?_
  refine WP.ret ?_
  refine ret_ok rfl ?_ (by omega) (fun t ht => (hk2 t (by omega)))
  -- ret 1
  rfl
 ·
  refine WP.skip ?_
  refine hK3 _ ?_
  refine wd ?_
  refine d_step (o_pcall (s44) rfl ⟨rfl, rfl, rfl⟩) ?_
  refine dm ?_
  apply d_guard
  · exact GC.t _
  · intro hg
    exact pg th30 hb2
  apply d_guard
  · exact GC.t _
  · intro hg; try simp only [hg, ct]; try simp only [hg, ct, Bt]
    refine o_pcall (s45 e ok) rfl ⟨rfl, rfl, rfl⟩
  apply d_guard
  · exact GC.t _
  · intro hg
    exact pg th30 hb2
  apply d_guard
  · exact GC.t _
  · intro hg; try simp only [hg, ct]; try simp only [hg, ct, Bt]
    refine o_pcall (s24 e ok) rfl ⟨rfl, rfl, rfl⟩
  apply d_guard
  · exact GC.t _
  · intro hg; try simp only [hg, ct]; try simp only [hg, ct, Bt]
    refine o_bin_eqb rfl rfl th4 rfl ⟨rfl, rfl, rfl⟩
  refine dA ?_
  refine dm ?_
  apply d_guard
  · exact GC.t _
  · intro hg
    exact pg th30 hb2
  apply d_guard
  · exact GC.t _
  · intro hg; try simp only [hg, ct]; try simp only [hg, ct, Bt]
    refine o_pcall (s47 e okc.hi okc.hd okc.hl okc.hs) rfl ⟨rfl, rfl, rfl⟩
  apply d_guard
  · exact GC.t _
  · intro hg
    exact pg th30 hb2
  apply d_guard
  · exact GC.t _
  · intro hg; try simp only [hg, ct]; try simp only [hg, ct, Bt]
    refine o_pcall (s46 e e) rfl ⟨rfl, rfl, rfl⟩
  refine dA ?_
  refine dm ?_
  apply d_guard
  · exact GC.t _
  · intro hg
    exact pm
  apply d_guard
  · exact GC.t _
  · intro hg; try simp only [hg, ct]; try simp only [hg, ct, Bt]
    refine o_pcall (s48 s) rfl ⟨rfl, rfl, rfl⟩
  apply d_guard
  · exact GC.t _
  · intro hg
    exact pm
  apply d_guard
  · exact GC.t _
  · intro hg; try simp only [hg, ct]; try simp only [hg, ct, Bt]
    refine o_pcall (s49 s) rfl ⟨rfl, rfl, rfl⟩
  apply d_guard
  · exact GC.t _
  · intro hg; try simp only [hg, ct]; try simp only [hg, ct, Bt]
    refine o_bin_eqb rfl rfl th4 rfl ⟨rfl, rfl, rfl⟩
  refine dA ?_
  refine da ?_
  refine d_nil ?_
  refine WP.ret ?_
  refine ret_ok rfl ?_ (by omega) (fun t ht => (hk2 t (by omega)))
  -- ret 2
  refine congrArg D.bool ?_
  simp [sameE_refl]

end Go.Proofs.YtpkcbdhjnnnkbaaGreat.Abs

set_option linter.unusedVariables false
set_option linter.unusedSimpArgs false
set_option maxRecDepth 10000
namespace Go.Proofs.YtpkcbdhjnnnkbaaGreat.lawEntryChecks
open Go Abs
open Go.ChangeShapes Go.WideShapes Go.ChangeAt Go.RowKit
theorem own : ownKnob Tryz.prog.godebug = none := by kernel_rfl
theorem laid : laidOutB Tryz.prog = true := by kernel_rfl
theorem contract (H : Type) (enc : TypeId × Value → H) (W : World) (base : Nat) (args : Array Value) (ds gs : List (DataW H)) (before : List MemPlace)
    (hval : ∀ (j : Nat) t v, Tryz.f9.params[j]? = some t → args[j]? = some v → Value.okWide Tryz.prog W .any base t v)
    (hW : DataW.Whole enc Tryz.prog Tryz.f9.params.toList Rows.entryChecksSpec.vars false W args.toList ds gs before) (hk : Rows.uptoSmall H (ds ++ gs) = true) :
    Calls Tryz.prog 9 args W fun e W' => ∃ v, e = .returned v ∧ Rows.entryChecksSpec.post enc Tryz.prog Tryz.f9 false true false false W args v W' := by
  have hW' := hW
  obtain ⟨p, q, hA0, hV, rfl, hfz, hnd⟩ := hW
  have hA : DataW.TrodAll enc Tryz.prog W 0 (fun _ => true) true Tryz.f9.params.toList args.toList ds p := hA0
  rw [Tryz.params9] at hA hval
  obtain ⟨v0, vs0, d0, ds0, p0, q0, hargs, rfl, rfl, h0, r0⟩ := trodAll_cons hA
  obtain ⟨v1, vs1, d1, ds1, p1, q1, rfl, rfl, rfl, h1, r1⟩ := trodAll_cons r0
  obtain ⟨rfl, rfl, rfl⟩ := trodAll_nil r1
  obtain rfl : args = #[v0, v1] := by cases args; simp_all
  obtain ⟨rfl, rfl⟩ := trodVars_none hV
  clear hA0
  simp only [List.append_nil] at hW' hk
  have hb : Rows.uptoBulkAll [d0, d1] ≤ 1048576 := of_decide_eq_true hk
  simp only [Rows.uptoBulkAll] at hb
  obtain ⟨n0, t0⟩ := h0
  obtain ⟨e, c0, a0⟩ := open_etr t0
  have x0 := rdv_struct (hval 0 30 v0 rfl rfl) (tabOk _ _ th30) rfl c0 rfl rfl
  obtain ⟨n1, t1⟩ := h1
  obtain ⟨s, c1, a1⟩ := open_str t1
  have x1 := rdv_one (hval 1 9 v1 rfl rfl) (tabOk _ _ th9) rfl c1
  have ok : OkE e := okE_of (d := d0) a0 (by omega)
  have okd := okEd_of (d := d0) a0 (by omega)
  have okc := okC_of (d := d0) a0 (by omega)
  refine (calls_of_spec (vs := [v0, v1]) (ds := [encE e, .str s]) Tryz.func9 (by kernel_rfl) (by kernel_rfl) (s9 e s ok okd okc) ⟨rfl, fun i x v hx hv => ?_⟩).mono fun e W' ⟨he, hg⟩ => ?_
  · match i, hx, hv with
    | 0, hx, hv => simp at hx hv; subst hx; subst hv; exact x0
    | 1, hx, hv => simp at hx hv; subst hx; subst hv; exact x1
    | i + 2, hx, hv => simp at hx
  subst he
  exact ⟨_, rfl, post_of_below (pa := p0 ++ (p1 ++ [])) (pv := []) hW' (fun _ _ _ => trodAll_cons_mk (shut_bool Tryz.underlying4 _) trodAll_mk0) (fun sp hs => trodAll_stays laid hg (by kernel_rfl) hA (fun x hx => hs x (by simpa using hx)) (fun x hx => hW'.lt x (by simpa using hx))) (fun _ _ => rfl) (by simp) hg (ok_one (by kernel_rfl) rfl (okWide_bool_mk Tryz.underlying4 _))⟩
set_option maxRecDepth 100000 in
theorem lifted (os : Os) (started : os.Started) (H : Type) (enc : TypeId × Value → H) (F : Stop.Interp) :
    ReturnsInHanded {} Tryz.checked os 9 .any ((Rows.OpenSpec.upto Rows.entryChecksSpec).pre6 enc Tryz.prog Tryz.f9 Rows.entryChecksUptoRow.domain false) (((Rows.OpenSpec.upto Rows.entryChecksSpec).at F).post enc Tryz.prog Tryz.f9 false true false false) := by
  refine returnsInHanded_of_cond (C := Tryz.checked) (s := Rows.OpenSpec.upto Rows.entryChecksSpec) (k := Rows.uptoSmall) rfl own started (by kernel_rfl) Tryz.func9
    (OpenSpec.witness (enc := enc) (C := Tryz.checked) (s := Rows.OpenSpec.upto Rows.entryChecksSpec) (k := Rows.uptoSmall) rfl false ⟨#[], #[.agg #[.int .i64 0, .int .i64 0, .string ⟨#[]⟩, .string ⟨#[]⟩, .int .i64 0, .int .i64 0, .string ⟨#[]⟩, .slice none 0 0, .slice none 0 0, .int .i64 0, .int .i64 0, .string ⟨#[]⟩, .slice none 0 0, .slice none 0 0, .slice none 0 0, .int .i64 0, .int .i64 0], .string ⟨#[]⟩], []⟩ 8 (by kernel_rfl) (by kernel_rfl) (by kernel_rfl)
      (x := ([.agg [.lit (.int .i64 0), .lit (.int .i64 0), .lit (.string []), .lit (.string []), .agg [.lit (.int .i64 0), .lit (.int .i64 0), .lit (.string []), .nil, .nil], .agg [.lit (.int .i64 0), .lit (.int .i64 0), .lit (.string []), .nil, .nil], .nil, .lit (.int .i64 0), .lit (.int .i64 0)], .lit (.string [])], [], [])) (by kernel_rfl) rfl (by kernel_rfl)) ?_
  intro W base args ds gs before hval hW _ hk _
  exact contract H enc W base args ds gs before hval hW hk
theorem over : Rows.entryChecksUptoRow.holds Tryz.pinned (Rows.OpenSpec.upto Rows.entryChecksSpec) :=
  OpenClaim.holds_of_cond 9 Tryz.f9 rfl rfl rfl rfl rfl rfl rfl ⟨rfl, rfl, rfl, rfl, rfl⟩ rfl rfl rfl rfl rfl (by kernel_rfl) Tryz.func9 (by kernel_rfl)
    (of_decide_eq_true (by kernel_rfl)) (by unfold Func.isWrapper; first | (rw [if_pos (by decide +kernel)]; kernel_rfl) | (rw [if_neg (by decide +kernel)]; exact ⟨rfl, rfl⟩))
    (fun os started H enc _ F => lifted os started H enc F)
end Go.Proofs.YtpkcbdhjnnnkbaaGreat.lawEntryChecks
namespace Go.Proofs.YtpkcbdhjnnnkbaaGreat
theorem entryChecks_upto_holds : Rows.EntryChecksUptoSaid := lawEntryChecks.over
end Go.Proofs.YtpkcbdhjnnnkbaaGreat
